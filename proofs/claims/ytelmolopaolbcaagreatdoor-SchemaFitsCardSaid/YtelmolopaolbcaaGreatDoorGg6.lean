/- What it rests on, part 6. -/
import Derived.Test.YtelmolopaolbcaaGreatDoorGg5
import Derived.Test.YtelmolopaolbcaaGreatDoorCards
import Derived.Test.YtelmolopaolbcaaGreatDoorTie
import Derived.OpenShut
import Derived.Lib.LaidU8
import Derived.Clock
import Derived.ProofKit
import Derived.Lay
import Derived.Stop.Joined
import Derived.Deep.DeepHandedRow
import Derived.ChangeSame
import Derived.ChangeMaps5
import Derived.Carry
import Derived.Deep.Slices
import Derived.ReadAgain
import Derived.ChangeBook
import Derived.Deep.Matrix
set_option linter.unusedVariables false
set_option linter.unusedSimpArgs false
namespace Go.Proofs.YtelmolopaolbcaaGreatDoor
open Go.SW Go.SP Go.RowKit Go.Proofs.Tryz
set_option maxHeartbeats 2000000 in
theorem Wm(w:World)(f:Fq)(hv:Vl w f)(A:Ad)(hA:A.ok)(s:CS)(hC:As 84 163 A s w f)(hf:∀b,Bz A b→f b=0)(hw:Dy s)(hG:EE w f)(op ln co nm:Int)(tx:lU)(kids:Nd)(na:Option Addr)(nc:Nat)(hsz:kids.size≤200000)(htx:tx.length≤100000)(htb0:kids.txb)(hN:AD w f kids na nc)(hvb : -800000000000≤s.vars-kids.len)(hvb2:s.vars≤0) :
  BD prog 23 #[pB A.cb,.agg #[iV op,iV ln,iV co,S tx,iV nm,.slice na kids.len nc]] w (EC (α:=CS) (λ_=>.tuple #[]) (λx=>G3 s ln co tx kids=.ok x∧Dy x∧x.fresh=s.fresh∧s.vars-kids.len≤x.vars∧x.vars≤s.vars) (Bz A) (λx=>As 84 163 A x) (λ_=>[]) w f) (PanE 67 (Bz A) (λer=>G3 s ln co tx kids=.error er) w f):=by
 have hkl:=Nd.len_le kids;refine Mm (X:=XC 84 163 A s w f) (H:=[]) (R:=[]) (B:=[]) (Fs:=[λw f=>AD w f kids na nc,λw f=>EE w f]) (f:=f) func23 rfl rfl rfl (Kr hv hC hf ⟨hN,hG,tQ⟩ ⟨AD.mono,EE.mono,tQ⟩)<|Aa 6 [] (λb1=>λ_=>?_)
 cases hdl:AS s.datas tx with
 |none =>
  refine Ki (λw=>AI w A.cb [pB A.sb,.map (some A.km),.map (some A.dm),.map (some A.rm),iV s.vars] 84∧BF BN w A.dm (s.datas.map λp=>(p.1,iV p.2))) (λw f h _=>⟨h.blk,h.datas⟩) [0] Ak (rd [0,1,2,3,4,5,6,7,8,9,10,11] .fin) rfl kR kR kR (λ_ _ _ _ _ h=>h)<|A1 3 [] (λ_=>F6 rfl rfl rfl (λw hK=>Ai rfl QC hK.2.2.1 rfl)<|A1 2 [0] (y<|λ_=>F6 rfl rfl rfl (λw hK=>I1 (K:=BN) (a:=tx) rfl rfl RS FH eR hK.2.2.2 hw.dd (by rw[Eg (λc=>Value.int .i64 c),hdl];rfl))<|A1 5 [] (λ_=>Bf<|Aa 2 [] (λ_=>Cv [0] Ak (rd [0,1,2,3,4,5,6,10,11] (.br 7 (.rd 8 (.rd 9 (.br 12 .fin .fin))) .fin)) rfl kR<|A1 9 [0,0] (y<|aI (by simp;omega)<|aI (by simp;omega)<|y<|λ_=>?_)))));refine Af rfl ?_ Aj;refine Br rfl rfl (eC OU rfl rfl) (λw f hM=>G0 w f hM.vl hM.f1 G4 ([32]++tx++[32]) dC) (λx=>trivial) ?_;rintro⟨⟩ -;refine Aa 1 [] (λ_=>Au [0] rfl<|A1 2 [] (λ_=>Af rfl ?_ Aj));refine D5 (α:=Unit) (val:=λ_=>.tuple #[]) (q:=λ_=>(!Dp G4 ([32]++tx++[32]))=true) (I':=λ_=>As 84 163 A s) (F':=λ_=>[]) (pe:=λer=>(!Dp G4 ([32]++tx++[32]))=false∧er=(ln,co,11)) (M:=λ_=>False) (T:=67) rfl rfl (eC Eh rfl rfl) (λ_ h=>h.elim) (λw f hM=>(Cj w f hM.vl (!Dp G4 ([32]++tx++[32])) ln co).mono (λ_ _ ⟨x,f2,h1,h2,h3,h4⟩=>⟨x,f2,h1,h2,h3.mono (λ_ h=>h.elim),(hM.call0 h3).res,h4⟩) λ_ _ h=>h) (λ_=>As.stab) (λ_=>trivial) (λer w2 f2 he hE=>⟨rfl,er,f2,rfl,(by have h9:Dp G4 ([32]++tx++[32])=true:=Fl he.1;rw[G3,if_pos (by rw[hdl,h9];rfl),he.2]),hE⟩) ?_;rintro⟨⟩ hnd;have hnd0:¬((AS s.datas tx).isSome||Dp G4 ([32]++tx++[32]))=true:=by rw[hdl,show Dp G4 ([32]++tx++[32])=false from EV hnd];decide
  refine Aa 1 [] (λ_=>Au [0] rfl<|Bf<|Aa 3 [] (λ_=>ZP (K:=BN) rfl rfl λvm hvm=>Aa 7 [0] (y<|λ_=>Br rfl rfl (eC Bu rfl rfl) (λw f hM=>Bl w f hM.vl tx) (λx=>trivial) ?_)));rintro⟨⟩ -;refine Aa 19 [0,1] (λb2=>y<|y<|λ_=>MD 3 1<|MD 76 4 ?_);refine EZ (α:=Nat×Nd×Int×List (lU×T1)×Ty×List Value×Option Addr×Nat×List Int×Option Addr×Nat) (λx=>x.2.1.len) (λx=>x.1+x.2.1.len=kids.len∧DY ln co kids s.vars [] .nil []=DY ln co x.2.1 x.2.2.1 x.2.2.2.1 x.2.2.2.2.1 x.2.2.2.2.2.2.2.2.1∧x.2.2.2.2.1.len=x.2.2.2.2.2.2.2.2.1.length∧x.2.2.2.2.2.2.2.2.1.length≤x.1∧x.2.2.2.2.1.bnd∧Ir (rF x.2.2.2.1)∧(∀n t,AS x.2.2.2.1 n=some t→∃q,t=.var q)∧s.vars-x.1≤x.2.2.1∧x.2.2.1≤s.vars) (λx=>(E8 0 (pB A.cb) 3 (pB b1) 6 (.map (some vm)) 7 (pB b2) 8 (.slice x.2.2.2.2.2.2.2.2.2.1 x.2.2.2.2.2.2.2.2.1.length x.2.2.2.2.2.2.2.2.2.2) 48 (.slice na kids.len nc) 49 (iV (kids.len:Int)) 50 (iV (x.1:Int)))) (λx=>⟨Bz A,λb=>Bz A b∨b=vm,DT 84 163 A ({s with vars:=x.2.2.1}:CS) vm x.2.2.2.1,w,f⟩) (λx=>[⟨b2,[iV 1,iV 0,S tx,.slice x.2.2.2.2.2.2.1 x.2.2.2.2.2.2.2.2.1.length x.2.2.2.2.2.2.2.1],76,true⟩,⟨b1,[iV op,iV ln,iV co,S tx,iV nm,.slice na kids.len nc],74,true⟩]) (λx=>[⟨76,4,x.2.2.2.2.2.2.1,x.2.2.2.2.2.2.2.1,x.2.2.2.2.2.2.2.2.1.length,x.2.2.2.2.2.1⟩,⟨3,1,x.2.2.2.2.2.2.2.2.2.1,x.2.2.2.2.2.2.2.2.2.2,x.2.2.2.2.2.2.2.2.1.length,x.2.2.2.2.2.2.2.2.1.map λn=>iV n⟩]) (λx=>[]) (λx=>[λw f=>AU w f na x.1 x.2.1,λw f=>Be w f x.2.2.2.2.1 x.2.2.2.2.2.1,λw f=>EE w f,λw f=>AD w f kids na nc]) (0,kids,s.vars,[],.nil,[],none,0,[],none,0) ⟨Nat.zero_add _,rfl,rfl,Nat.le_refl _,tQ,tQ,λ_ _ h=>(by cases h),by dsimp only;omega,Int.le_refl _⟩ lE (λw f hM=>hM.more (B':=[]) (F':=[λw f=>AU w f na 0 kids,λw f=>Be w f .nil []]) nE (AE.mem ⟨AD.at hM.f0,rfl,tQ⟩) (Aw.mem ⟨AU.mono,Be.mono,tQ⟩) |>.less sR sR nE (mR [0,1,3,2])) ?_;rintro⟨i,r,v,m,self,xs,ra,rc,nums,na2,nc2⟩ ⟨hi,hdv,hsl,hnl,hsb,hdm,hmv,hv1,hv2⟩;dsimp only at hi hdv hsl hnl hsb hdm hmv hv1 hv2 ⊢;refine Aa 6 [] (λ_=>AJ 51 rfl rfl (λh1=>?_) (λh1=>?_));refine Aa 6 [] (λ_=>?_);have hil:i<kids.len:=by have:=of_decide_eq_true h1;omega
  obtain⟨op2,ln2,co2,tx2,nm2,k2,r,rfl⟩:=Nd.cases1 r oM;have hi2:i+(r.len+1)=kids.len:=hi;refine HD 0 rfl ?_;rintro⟨eb,eo,ka,kc⟩ rfl;refine Aa 15 [100,0,0,0] (aI oM<|y2<|λb3=>y<|y<|λ_=>AJ 56 rfl rfl (λh2=>?_) (λh2=>?_));exact Aa 9 [] (aI ⟨oM,oM⟩<|λ_=>CY ((i+1,r,v,m,self,xs,ra,rc,nums,na2,nc2)) (show r.len<(Nd.cons op2 ln2 co2 tx2 nm2 k2 r).len from Nat.lt_succ_self _) ⟨show i+1+r.len=_ by omega,hdv.trans (Ra (by simpa using h2)),hsl,show nums.length≤i+1 by omega,hsb,hdm,hmv,show s.vars-((i+1:Nat):Int)≤v by omega,hv2⟩ lE (λw f hM=>⟨_,hM.less (sD (sK (sK sZ))) sR nE (mR [1,3,4,5])⟩));refine Aa 4 [] (λ_=>?_);have hop2:(op2==31)=true:=by have h9:(op2 != 31)=false:=h2;simpa using h9
  cases hvl:AS m tx2 with
  |none =>
   refine Aa 4 [0] (y<|λ_=>D6 rfl rfl (λw f hM=>I1 (K:=BN) (a:=tx2) rfl rfl Lr FH MJ hM.res.2 hdm (by rw[Eg (λt=>tV t none 0),hvl];rfl))<|Aa 14 [0,3] (λb4=>y<|y<|λ_=>D5 (α:=Unit) (val:=λ_=>.tuple #[]) (q:=λ_=>true=true) (I':=λ_=>DT 84 163 A ({s with vars:=v}:CS) vm m) (F':=λ_=>[]) (pe:=λer=>true=false∧er=(ln,co,11)) (M:=λ_=>False) (T:=67) rfl rfl (eC Eh rfl rfl) (λ_ h=>h.elim) (λw f hM=>(Cj w f hM.vl true ln co).mono (λ_ _ ⟨x,f2,h1,h2,h3,h4⟩=>⟨x,f2,h1,h2,h3.mono (λ_ h=>h.elim),(hM.call0 h3).res,h4⟩) λ_ _ h=>h) (λ_=>DT.stab) (λ_=>trivial) (λer w2 f2 he hE=>⟨rfl,er,f2,rfl,(by cases he.1),hE⟩) ?_));rintro⟨⟩ hnd;refine Aa 7 [] (λ_=>D6 (v:=iV v) rfl rfl (λw f hM=>Ai rfl Hz hM.res.1.blk rfl)<|Aa 3 [] (aI ⟨oM,oM⟩<|λ_=>uG hA hvm rfl rfl rfl Hz<|Aa 3 [] (λ_=>Ki (λw=>AI w A.cb [pB A.sb,.map (some A.km),.map (some A.dm),.map (some A.rm),iV (v-1)] 84) (λw f h _=>h.1.blk) [0,1,2,3] Ak (rd [0,1,2,3,4,5,6] (.br 7 (.br 8 .fin .fin) .fin)) rfl kR kR kR (λ_ _ _ _ _ h=>h)<|A1 6 [1] (y<|λ_=>F6 rfl rfl rfl (λw hK=>(Ai rfl Hz hK.2.2 rfl:AG _ _ _ _ _ (iV (v-1)) _))<|Af rfl ?_ Aj))));refine Br rfl rfl (eC GH rfl rfl) (λw f hM=>DA w f hM.vl (v-1)) (λx=>trivial) ?_;rintro⟨⟩ -;refine Aa 1 [] (λ_=>AW [0,1,2,3] (λw f h _=>h.1.blk) rfl (λ_ h=>h)<|Af rfl ?_ Aj);refine vD (q:=v-1) hvm rfl rfl rfl rfl Lr FH hdm hvl<|Aa 1 [] (λ_=>AW [0,1,2,3] (λw f h _=>h.1.blk) rfl (λ_ h=>h)<|Bf<|Aa 2 [] (λ_=>Ki (λw=>AI w A.cb [pB A.sb,.map (some A.km),.map (some A.dm),.map (some A.rm),iV (v-1)] 84) (λw f h _=>h.1.blk) [0,1,3] Ak (rd [0,2,3,4,5] (.br 1 (.br 6 (.br 7 (.br 8 (.rd 9 (.br 10 .fin .fin)) .fin) .fin) .fin) (.br 6 (.br 1 (.br 7 (.br 8 (.rd 9 (.br 10 .fin .fin)) .fin) .fin) (.br 7 (.br 1 (.br 8 (.rd 9 (.br 10 .fin .fin)) .fin) .fin) .fin)) .fin))) rfl kR kR kR (λ_ _ _ _ _ h=>h)<|A1 4 [] (λ_=>F6 rfl rfl rfl (λw hK=>(Ai rfl Hz hK.2.2 rfl:AG _ _ _ _ _ (iV (v-1)) _))<|Af rfl ?_ ?_)));refine Aa 2 [2] (y<|λ_=>AW [0,1,3] (λw f h _=>h.1.blk) rfl (λ_ h=>h)<|Af rfl ?_ Aj);refine Br rfl rfl (eC GH rfl rfl) (λw f hM=>DA w f hM.vl (v-1)) (λx=>trivial) ?_;rintro⟨⟩ -;refine Aa 1 [] (λ_=>AW [0,1,3] (λw f h _=>h.1.blk) rfl (λ_ h=>h)<|Af rfl ?_ Aj);refine Aa 2 [] (λb5=>λ_=>AW [1,2,4] (λw f h _=>h.1.blk) rfl (λ_ h=>h)<|Af rfl ?_ Aj);refine CT 0 0 rfl rfl CU rfl rfl rfl rfl rfl rfl rfl rfl (λ_ _=>rfl) oM oM λra2 rc2=>Aa 1 [] (λ_=>AW [1,2,4] (λw f h _=>h.1.blk) rfl (λ_ h=>h)<|A1 1 [] (λ_=>Af rfl ?_ Aj));refine Aa 2 [3] (y<|λ_=>AW [1,2,4] (λw f h _=>h.1.blk) rfl (λ_ h=>h)<|Bf<|Aa 6 [] (λ_=>D6 (v:=iV (v-1)) rfl rfl (λw f hM=>Ai rfl Hz hM.res.1.blk rfl)<|Aa 1 [] (λb6=>λ_=>CT 1 0 rfl rfl Ly rfl rfl rfl rfl rfl rfl rfl rfl (λ_ _=>rfl) oM oM λna3 nc3=>Aa 8 [] (aI ⟨oM,oM⟩<|λ_=>?_))))
   exact CY ((i+1,r,v-1,(tx2,.var (v-1))::m,self.snoc (.var (v-1)),xs++tC (.var (v-1)) none 0,ra2,rc2,(nums++[v-1]),na3,nc3)) (show r.len<(Nd.cons op2 ln2 co2 tx2 nm2 k2 r).len from Nat.lt_succ_self _) ⟨show i+1+r.len=_ by omega,hdv.trans (JK hop2 hvl),show (self.snoc _).len=_ by rw[Ty.len_snoc,hsl,List.length_append];rfl,show (nums++[v-1]).length≤i+1 by rw[List.length_append];simp;omega,Ty.bnd_snoc hsb (Bw _),IQ (λt=>tV t none 0) hdm hvl,λn t h=>by rw[DB] at h;split at h;(cases h;exact⟨_,rfl⟩);exact hmv n t h,show s.vars-((i+1:Nat):Int)≤v-1 by omega,show v-1≤s.vars by omega⟩ (oR rfl rfl rfl rfl (Eq.trans (b:=some (Value.slice na3 (nums.length+1) nc3)) rfl (by dsimp only;rw[List.length_append];rfl)) rfl rfl rfl) (λw f hM=>⟨_,by have hM9:=(hM.more (B':=[]) (F':=[λw f=>Be w f (self.snoc (.var (v-1))) (xs++tC (.var (v-1)) none 0)]) nE (AE.mem ⟨Be.snoc (Al.nil _ _ _ _) hM.f3,tQ⟩) (Aw.mem ⟨Be.mono,tQ⟩)).less (sD (sD (sD (sD (sK (sK sZ)))))) sR (B':=[]) nE (F':=[λw f=>AU w f (some ⟨eb,eo,none⟩) (i+1) r,λw f=>Be w f (self.snoc (.var (v-1))) (xs++tC (.var (v-1)) none 0),λw f=>EE w f,λw f=>AD w f kids (some ⟨eb,eo,none⟩) nc]) (mR [2,0,5,6]);dsimp only;rw[show (nums++[v-1]).length=nums.length+1 by rw[List.length_append];rfl,List.map_append];exact hM9⟩);refine Af rfl ?_ Aj;refine Br rfl rfl (eC GH rfl rfl) (λw f hM=>DA w f hM.vl (v-1)) (λx=>trivial) ?_;rintro⟨⟩ -;refine Aa 1 [] (λ_=>AW [0,1,3] (λw f h _=>h.1.blk) rfl (λ_ h=>h)<|Af rfl ?_ ?_);refine Aa 2 [2] (y<|λ_=>AW [0,1,3] (λw f h _=>h.1.blk) rfl (λ_ h=>h)<|Af rfl ?_ Aj);refine Aa 2 [] (λb7=>λ_=>AW [1,2,4] (λw f h _=>h.1.blk) rfl (λ_ h=>h)<|Af rfl ?_ Aj);refine CT 0 0 rfl rfl CU rfl rfl rfl rfl rfl rfl rfl rfl (λ_ _=>rfl) oM oM λra2 rc2=>Aa 1 [] (λ_=>AW [1,2,4] (λw f h _=>h.1.blk) rfl (λ_ h=>h)<|A1 1 [] (λ_=>Af rfl ?_ Aj));refine Aa 2 [3] (y<|λ_=>AW [1,2,4] (λw f h _=>h.1.blk) rfl (λ_ h=>h)<|Bf<|Aa 6 [] (λ_=>D6 (v:=iV (v-1)) rfl rfl (λw f hM=>Ai rfl Hz hM.res.1.blk rfl)<|Aa 1 [] (λb8=>λ_=>CT 1 0 rfl rfl Ly rfl rfl rfl rfl rfl rfl rfl rfl (λ_ _=>rfl) oM oM λna3 nc3=>Aa 8 [] (aI ⟨oM,oM⟩<|λ_=>?_))))
   exact CY ((i+1,r,v-1,(tx2,.var (v-1))::m,self.snoc (.var (v-1)),xs++tC (.var (v-1)) none 0,ra2,rc2,(nums++[v-1]),na3,nc3)) (show r.len<(Nd.cons op2 ln2 co2 tx2 nm2 k2 r).len from Nat.lt_succ_self _) ⟨show i+1+r.len=_ by omega,hdv.trans (JK hop2 hvl),show (self.snoc _).len=_ by rw[Ty.len_snoc,hsl,List.length_append];rfl,show (nums++[v-1]).length≤i+1 by rw[List.length_append];simp;omega,Ty.bnd_snoc hsb (Bw _),IQ (λt=>tV t none 0) hdm hvl,λn t h=>by rw[DB] at h;split at h;(cases h;exact⟨_,rfl⟩);exact hmv n t h,show s.vars-((i+1:Nat):Int)≤v-1 by omega,show v-1≤s.vars by omega⟩ (oR rfl rfl rfl rfl (Eq.trans (b:=some (Value.slice na3 (nums.length+1) nc3)) rfl (by dsimp only;rw[List.length_append];rfl)) rfl rfl rfl) (λw f hM=>⟨_,by have hM9:=(hM.more (B':=[]) (F':=[λw f=>Be w f (self.snoc (.var (v-1))) (xs++tC (.var (v-1)) none 0)]) nE (AE.mem ⟨Be.snoc (Al.nil _ _ _ _) hM.f3,tQ⟩) (Aw.mem ⟨Be.mono,tQ⟩)).less (sD (sD (sD (sD (sK (sK sZ)))))) sR (B':=[]) nE (F':=[λw f=>AU w f (some ⟨eb,eo,none⟩) (i+1) r,λw f=>Be w f (self.snoc (.var (v-1))) (xs++tC (.var (v-1)) none 0),λw f=>EE w f,λw f=>AD w f kids (some ⟨eb,eo,none⟩) nc]) (mR [2,0,5,6]);dsimp only;rw[show (nums++[v-1]).length=nums.length+1 by rw[List.length_append];rfl,List.map_append];exact hM9⟩);refine Af rfl ?_ Aj;refine Aa 2 [] (λb9=>λ_=>AW [1,2,4] (λw f h _=>h.1.blk) rfl (λ_ h=>h)<|Af rfl ?_ Aj);refine Aa 2 [3] (y<|λ_=>AW [1,2,4] (λw f h _=>h.1.blk) rfl (λ_ h=>h)<|Af rfl ?_ Aj);refine CT 0 0 rfl rfl CU rfl rfl rfl rfl rfl rfl rfl rfl (λ_ _=>rfl) oM oM λra2 rc2=>Aa 1 [] (λ_=>AW [1,2,4] (λw f h _=>h.1.blk) rfl (λ_ h=>h)<|A1 1 [] (λ_=>Af rfl ?_ Aj));refine Aa 2 [3] (y<|λ_=>AW [1,2,4] (λw f h _=>h.1.blk) rfl (λ_ h=>h)<|Bf<|Aa 6 [] (λ_=>D6 (v:=iV (v-1)) rfl rfl (λw f hM=>Ai rfl Hz hM.res.1.blk rfl)<|Aa 1 [] (λb10=>λ_=>CT 1 0 rfl rfl Ly rfl rfl rfl rfl rfl rfl rfl rfl (λ_ _=>rfl) oM oM λna3 nc3=>Aa 8 [] (aI ⟨oM,oM⟩<|λ_=>?_))))
   exact CY ((i+1,r,v-1,(tx2,.var (v-1))::m,self.snoc (.var (v-1)),xs++tC (.var (v-1)) none 0,ra2,rc2,(nums++[v-1]),na3,nc3)) (show r.len<(Nd.cons op2 ln2 co2 tx2 nm2 k2 r).len from Nat.lt_succ_self _) ⟨show i+1+r.len=_ by omega,hdv.trans (JK hop2 hvl),show (self.snoc _).len=_ by rw[Ty.len_snoc,hsl,List.length_append];rfl,show (nums++[v-1]).length≤i+1 by rw[List.length_append];simp;omega,Ty.bnd_snoc hsb (Bw _),IQ (λt=>tV t none 0) hdm hvl,λn t h=>by rw[DB] at h;split at h;(cases h;exact⟨_,rfl⟩);exact hmv n t h,show s.vars-((i+1:Nat):Int)≤v-1 by omega,show v-1≤s.vars by omega⟩ (oR rfl rfl rfl rfl (Eq.trans (b:=some (Value.slice na3 (nums.length+1) nc3)) rfl (by dsimp only;rw[List.length_append];rfl)) rfl rfl rfl) (λw f hM=>⟨_,by have hM9:=(hM.more (B':=[]) (F':=[λw f=>Be w f (self.snoc (.var (v-1))) (xs++tC (.var (v-1)) none 0)]) nE (AE.mem ⟨Be.snoc (Al.nil _ _ _ _) hM.f3,tQ⟩) (Aw.mem ⟨Be.mono,tQ⟩)).less (sD (sD (sD (sD (sK (sK sZ)))))) sR (B':=[]) nE (F':=[λw f=>AU w f (some ⟨eb,eo,none⟩) (i+1) r,λw f=>Be w f (self.snoc (.var (v-1))) (xs++tC (.var (v-1)) none 0),λw f=>EE w f,λw f=>AD w f kids (some ⟨eb,eo,none⟩) nc]) (mR [2,0,5,6]);dsimp only;rw[show (nums++[v-1]).length=nums.length+1 by rw[List.length_append];rfl,List.map_append];exact hM9⟩)
  |some tv =>
   obtain⟨q0,rfl⟩:=hmv tx2 tv hvl;exact Aa 4 [0] (y<|λ_=>D6 rfl rfl (λw f hM=>IW (K:=BN) (a:=tx2) (v:=tV (.var q0) none 0) rfl rfl Lr FH MJ hM.res.2 hdm (by rw[Eg (λt=>tV t none 0),hvl];rfl))<|Aa 14 [0,3] (λb11=>y<|y<|λ_=>M6 rfl rfl (eC Eh rfl rfl) (λ_ h=>h.elim) (λw f hM=>(Cj w f hM.vl false ln co).mono (λ_ _ ⟨_,_,_,h,_⟩=>by cases h) λ_ _ h=>h) (λer w2 f2 he hE=>⟨rfl,er,f2,rfl,(by rw[G3,if_neg hnd0,hdv,SM hop2 hvl,he.2]),hE⟩)))
  refine Aa 3 [] (λ_=>EH<|Aa 3 [] (λ_=>?_));obtain rfl:r=.nil:=Nd.len0 (by have:=of_decide_eq_false h1;omega);have hdv2:DY ln co kids s.vars [] .nil []=.ok (v,m,self,nums):=hdv;have hil0:i≤kids.len:=oM;refine LF (λw f=>Al w f self ra rc) Al.mono (λw f hM=>Ha hM hM.f1)<|LF (λw f=>BG w f nums na2 nc2) BG.mono (λw f hM=>LK hM) ?_;have hwv:Dy ({s with vars:=v}:CS):=hw.setVars;refine Ki (λw=>AI w A.cb [pB A.sb,.map (some A.km),.map (some A.dm),.map (some A.rm),iV v] 84) (λw f h _=>h.1.blk) [0,1] Ak (rd [0,1,2,3,4,5,6,7] (.br 8 .fin .fin)) rfl kR kR kR (λ_ _ _ _ _ h=>h)<|A1 3 [] (λ_=>F6 rfl rfl rfl (λw hK=>Ai rfl QC hK.2.2 rfl)<|A1 4 [1] (y<|λ_=>Af rfl ?_ Aj));refine oY hA hvm hwv rfl rfl rfl rfl RS FH hdl<|Aa 1 [] (λ_=>AW [0,1] (λw f h _=>h.1.blk) rfl (λ_ h=>h)<|Bf<|Aa 10 [1] (y<|λ_=>?_));refine EZ (α:=Nat×Nd×List (lU×Mk)) (λx=>x.2.1.len) (λx=>x.1+x.2.1.len=kids.len∧Dz ((tx,(nums.length:Int))::s.datas) m (.con tx self) nums kids s.cons=Dz ((tx,(nums.length:Int))::s.datas) m (.con tx self) nums x.2.1 x.2.2∧Dy ({s with vars:=v,datas:=(tx,(nums.length:Int))::s.datas,cons:=x.2.2}:CS)∧x.2.1.txb∧x.2.1.size≤kids.size) (λx=>(E7 0 (pB A.cb) 6 (.map (some vm)) 7 (pB b2) 8 (.slice na2 nums.length nc2) 111 (.slice na kids.len nc) 112 (iV (kids.len:Int)) 113 (iV (x.1:Int)))) (λx=>⟨Bz A,λb=>Bz A b∨b=vm,DT 84 163 A ({s with vars:=v,datas:=(tx,(nums.length:Int))::s.datas,cons:=x.2.2}:CS) vm m,w,f⟩) (λx=>[⟨b2,[iV 1,iV 0,S tx,.slice ra nums.length rc],76,true⟩,⟨b1,[iV op,iV ln,iV co,S tx,iV nm,.slice na kids.len nc],74,true⟩]) (λx=>[]) (λx=>[]) (λx=>[λw f=>AU w f na x.1 x.2.1,λw f=>BG w f nums na2 nc2,λw f=>Al w f self ra rc,λw f=>EE w f]) (0,kids,s.cons) ⟨Nat.zero_add _,rfl,(hwv.addData hdl),htb0,Nat.le_refl _⟩ lE (λw f hM=>hM.more (B':=[]) (F':=[λw f=>AU w f na 0 kids]) nE (AE.mem ⟨AD.at hM.f5,tQ⟩) (Aw.mem ⟨AU.mono,tQ⟩) |>.less sR sR nE (mR [0,1,2,5])) ?_;rintro⟨j,r,cl⟩ ⟨hi3,hdc,hwc,htxb,hrs⟩;dsimp only at hi3 hdc hwc htxb hrs ⊢;refine Aa 6 [] (λ_=>AJ 114 rfl rfl (λh3=>?_) (λh3=>?_));refine Aa 6 [] (λ_=>?_);have hil:j<kids.len:=by have:=of_decide_eq_true h3;omega
  obtain⟨op2,ln2,co2,tx2,nm2,k2,r,rfl⟩:=Nd.cases1 r oM;have hi2:j+(r.len+1)=kids.len:=hi3;obtain⟨htx2,hkx2,hrx2⟩:=htxb;have hrs2:k2.size+r.size+1≤kids.size:=hrs;have hkl2:=Nd.len_le k2;refine HD 0 rfl ?_;rintro⟨eb,eo,ka,kc⟩ rfl;refine Aa 15 [100,0,0,0] (aI oM<|y2<|λb12=>y<|y<|λ_=>AJ 119 rfl rfl (λh4=>?_) (λh4=>?_));exact Aa 9 [] (aI ⟨oM,oM⟩<|λ_=>CY ((j+1,r,cl)) (show r.len<(Nd.cons op2 ln2 co2 tx2 nm2 k2 r).len from Nat.lt_succ_self _) ⟨show j+1+r.len=_ by omega,hdc.trans (Sp (by simpa using h4)),hwc,hrx2,show r.size≤_ by omega⟩ lE (λw f hM=>⟨_,hM.less (sD (sK (sK sZ))) sR nE (mR [1,3,4,5])⟩));refine Aa 4 [] (λ_=>?_);have hop2:(op2==42)=true:=by have h9:(op2 != 42)=false:=h4;simpa using h9
  refine fY (λes w f=>DT 84 163 A ({s with vars:=v,datas:=(tx,(nums.length:Int))::s.datas,cons:=cl}:CS) vm m w f∧BF BN w A.km es∧BU w f cl es) (λw f h=>let ⟨es,h1,h2⟩:=h.1.cons;⟨es,h,h1,h2⟩) (λes w f w' f' h hF hb=>⟨DT.stab w f w' f' h.1 hF hb,h.2.1.heap (hb _ (.inl (.inr (.inr (.inr (.inl rfl)))))),BU.mono hF _ _ h.2.2⟩) λes=>Ig (λw f hM=>(show Ir es from BU.dis hM.res.2.2 hwc.dc)) λhdis=>?_
  cases hcl:AS cl tx2 with
  |none =>
   refine Ig (λw f hM=>(BU.look hM.res.2.2).1 hcl) λhlk=>Ki (λw=>AI w A.cb [pB A.sb,.map (some A.km),.map (some A.dm),.map (some A.rm),iV v] 84∧BF BN w A.km es) (λw f h _=>⟨h.1.1.blk,h.2.1⟩) [0,1,2] Ak (rd [0,1,2,3,4,5,6,7,8,9] (.br 10 (.br 11 (.rd 12 .fin) .fin) .fin)) rfl kR kR kR (λ_ _ _ _ _ h=>h)<|A1 3 [] (λ_=>F6 rfl rfl rfl (λw hK=>Ai rfl OG hK.2.2.1 rfl)<|A1 2 [0] (y<|λ_=>F6 rfl rfl rfl (λw hK=>I1 (K:=BN) (a:=tx2) rfl rfl OI FH PS hK.2.2.2 hdis hlk)<|A1 3 [] (λ_=>Af rfl ?_ Aj)));refine Aa 2 [] (λb13=>λ_=>AW [1,2,3] (λw f h _=>⟨h.1.1.blk,h.2.1⟩) rfl (λ_ h=>h)<|Af rfl ?_ Aj);refine Aa 2 [0] (y<|λ_=>AW [1,2,3] (λw f h _=>⟨h.1.1.blk,h.2.1⟩) rfl (λ_ h=>h)<|A1 1 [] (λ_=>Bf<|Aa 7 [1] (y<|λ_=>D5 (α:=Unit) (val:=λ_=>.tuple #[]) (q:=λ_=>true=true) (I':=λ_=>DT 84 163 A ({s with vars:=v,datas:=(tx,(nums.length:Int))::s.datas,cons:=cl}:CS) vm m) (F':=λ_=>[]) (pe:=λer=>true=false∧er=(ln2,co2,11)) (M:=λ_=>False) (T:=67) rfl rfl (eC Eh rfl rfl) (λ_ h=>h.elim) (λw f hM=>(Cj w f hM.vl true ln2 co2).mono (λ_ _ ⟨x,f2,h1,h2,h3,h4⟩=>⟨x,f2,h1,h2,h3.mono (λ_ h=>h.elim),(hM.call0 h3).res.1,h4⟩) λ_ _ h=>h) (λ_=>DT.stab) (λ_=>trivial) (λer w2 f2 he hE=>⟨rfl,er,f2,rfl,(by cases he.1),hE⟩) ?_)));rintro⟨⟩ hnd;refine Aa 21 [2,0,2] (y<|λb14=>y<|y<|λ_=>MD 76 4 ?_);refine EZ (α:=Nat×Nd×Ty×List Value×Option Addr×Nat) (λx=>x.2.1.len) (λx=>x.1+x.2.1.len=k2.len∧x.2.2.1.len=x.1∧FR ((tx,(nums.length:Int))::s.datas) m k2=(match FR ((tx,(nums.length:Int))::s.datas) m x.2.1 with|.error x=>.error x|.ok l=>.ok (x.2.2.1.app l))∧x.2.2.1.bnd∧x.2.1.txb∧x.2.1.size≤k2.size) (λx=>(wX 0 (pB A.cb) 6 (.map (some vm)) 7 (pB b2) 8 (.slice na2 nums.length nc2) 14 (pB b12) 17 (pB b14) 111 (.slice (some ⟨eb,eo,none⟩) kids.len nc) 112 (iV (kids.len:Int)) 113 (iV (j:Int)) 139 (.slice ka k2.len kc) 140 (iV (k2.len:Int)) 141 (iV (x.1:Int)))) (λx=>⟨Bz A,λb=>Bz A b∨b=vm,DT 84 163 A ({s with vars:=v,datas:=(tx,(nums.length:Int))::s.datas,cons:=cl}:CS) vm m,w,f⟩) (λx=>[⟨b14,[.slice x.2.2.2.2.1 x.1 x.2.2.2.2.2,iV 1,iV 0,S tx,.slice ra nums.length rc,.slice na2 nums.length nc2],120,true⟩,⟨b12,Kd op2 ln2 co2 tx2 nm2 ka k2.len kc,74,true⟩,⟨b2,[iV 1,iV 0,S tx,.slice ra nums.length rc],76,true⟩,⟨b1,[iV op,iV ln,iV co,S tx,iV nm,.slice (some ⟨eb,eo,none⟩) kids.len nc],74,true⟩]) (λx=>[⟨76,4,x.2.2.2.2.1,x.2.2.2.2.2,x.1,x.2.2.2.1⟩]) (λx=>[]) (λx=>[λw f=>AU w f ka x.1 x.2.1,λw f=>Be w f x.2.2.1 x.2.2.2.1,λw f=>EE w f,λw f=>BG w f nums na2 nc2,λw f=>Al w f self ra rc,λw f=>AU w f (some ⟨eb,eo,none⟩) (j+1) r]) (0,k2,.nil,[],none,0) ⟨Nat.zero_add _,rfl,Nk,tQ,hkx2,Nat.le_refl _⟩ lE (λw f hM=>hM.more (B':=[]) (F':=[λw f=>AU w f ka 0 k2,λw f=>Be w f .nil []]) nE (AE.mem ⟨AD.at hM.f0,rfl,tQ⟩) (Aw.mem ⟨AU.mono,Be.mono,tQ⟩) |>.less (sK (sD (sK (sK (sK sZ))))) sR nE (mR [0,1,7,5,6,3])) ?_;rintro⟨i4,r4,dn,xs4,ra5,rc5⟩ ⟨hi4,hdl2,hty,hdb,htxb4,hrs4⟩
   dsimp only at hi4 hdl2 hty hdb htxb4 hrs4 ⊢;refine Aa 6 [] (λ_=>AJ 142 rfl rfl (λh5=>?_) (λh5=>?_));refine Aa 6 [] (λ_=>?_);have hil4:i4<k2.len:=by have:=of_decide_eq_true h5;omega
   obtain⟨op3,ln3,co3,tx3,nm3,k3,r4,rfl⟩:=Nd.cases1 r4 oM;have hi5:i4+(r4.len+1)=k2.len:=hi4;obtain⟨htx3,hkx3,hrx3⟩:=htxb4;have hrs4b:k3.size+r4.size+1≤k2.size:=hrs4;refine HD 0 rfl ?_;rintro⟨eb4,eo4,ka4,kc4⟩ rfl;refine Aa 7 [100,0,0] (aI oM<|y2<|λb15=>y<|λ_=>Cv [0,2,3,4] Ak (rd [0,2,3,4] (.br 1 (.br 5 (.br 6 (.br 7 (.rd 8 (.br 9 .fin .fin)) .fin) .fin) .fin) (.br 5 (.br 1 (.br 6 (.br 7 (.rd 8 (.br 9 .fin .fin)) .fin) .fin) (.br 6 (.br 1 (.br 7 (.rd 8 (.br 9 .fin .fin)) .fin) .fin) .fin)) .fin))) rfl kR<|A1 4 [0] (y<|λ_=>Af rfl ?_ ?_));refine Aa 2 [1] (y<|λ_=>Au [0,2,3,4] rfl<|Af rfl ?_ Aj);refine D5 (I':=λ_=>DT 84 163 A ({s with vars:=v,datas:=(tx,(nums.length:Int))::s.datas,cons:=cl}:CS) vm m) (M:=λ_=>False) (α:=T1×Option Addr×Nat) (val:=λx=>tV x.1 x.2.1 x.2.2) (q:=λx=>CD ((tx,(nums.length:Int))::s.datas) m op3 ln3 co3 tx3 k3=.ok x.1∧x.1.bnd) (F':=λx=>[λw f=>Al w f x.1.kids x.2.1 x.2.2]) (pe:=λer=>CD ((tx,(nums.length:Int))::s.datas) m op3 ln3 co3 tx3 k3=.error er) (T:=67) rfl rfl (eC M9 rfl rfl) (λ_ h=>h.elim) (λw f hM=>(Ko (k3.size+1) w f hM.vl A ({s with vars:=v,datas:=(tx,(nums.length:Int))::s.datas,cons:=cl}:CS) hM.res.1 hwc hM.f4 op3 ln3 co3 nm3 tx3 k3 ka4 kc4 (.map (some vm)) m (Nat.lt_succ_self _) oM htx3 hkx3 (.inr ⟨vm,rfl,hM.res.2,hdm,hmv⟩) hM.f0).mono (λ_ _ ⟨x,f2,h1,h2,h3,h4⟩=>⟨x,f2,h1,h2,h3.mono (λ_ h=>h.elim),(hM.call0 h3).res,h4⟩) λ_ _ h=>h) (λ_=>DT.stab) (λ_=>⟨Al.mono,tQ⟩) (λer w2 f2 he hE=>⟨rfl,er,f2,rfl,(by rw[G3,if_neg hnd0,hdv2];simp only;rw[hdc,No hop2 hcl (by rw[hty,IV he])]),hE⟩) ?_;rintro⟨q5,qa,qc⟩ ⟨hp5,hqb⟩;dsimp only at hp5 hqb ⊢;refine Aa 1 [] (λ_=>Au [0,2,3,4] rfl<|Af rfl ?_ Aj);refine Aa 2 [] (λb16=>λ_=>Au [1,3,4,5] rfl<|Af rfl ?_ Aj);refine CT 0 0 rfl rfl CU rfl rfl rfl rfl rfl rfl rfl rfl (λ_ _=>rfl) oM oM λra6 rc6=>Aa 1 [] (λ_=>Au [1,3,4,5] rfl<|A1 1 [] (λ_=>Af rfl ?_ Aj));exact Aa 2 [2] (y<|λ_=>Au [1,3,4,5] rfl<|Bf<|Aa 6 [] (aI ⟨oM,oM⟩<|λ_=>CY ((i4+1,r4,dn.snoc q5,xs4++tC q5 qa qc,ra6,rc6)) (show r4.len<(Nd.cons op3 ln3 co3 tx3 nm3 k3 r4).len from Nat.lt_succ_self _) ⟨show i4+1+r4.len=_ by omega,show (dn.snoc _).len=i4+1 by rw[Ty.len_snoc,hdl2],hty.trans (Gv hp5),show (dn.snoc _).bnd from Ty.bnd_snoc hdb hqb,hrx3,show r4.size≤_ by omega⟩ lE (λw f hM=>⟨_,(hM.more (B':=[]) (F':=[λw f=>Be w f (dn.snoc q5) (xs4++tC q5 qa qc)]) nE (AE.mem ⟨Be.snoc hM.f0 hM.f4,tQ⟩) (Aw.mem ⟨Be.mono,tQ⟩)).less (sD (sD (sK (sK (sK (sK sZ)))))) sR nE (mR [3,0,6,7,8,9])⟩)));refine Af rfl ?_ Aj
   refine D5 (I':=λ_=>DT 84 163 A ({s with vars:=v,datas:=(tx,(nums.length:Int))::s.datas,cons:=cl}:CS) vm m) (M:=λ_=>False) (α:=T1×Option Addr×Nat) (val:=λx=>tV x.1 x.2.1 x.2.2) (q:=λx=>CD ((tx,(nums.length:Int))::s.datas) m op3 ln3 co3 tx3 k3=.ok x.1∧x.1.bnd) (F':=λx=>[λw f=>Al w f x.1.kids x.2.1 x.2.2]) (pe:=λer=>CD ((tx,(nums.length:Int))::s.datas) m op3 ln3 co3 tx3 k3=.error er) (T:=67) rfl rfl (eC M9 rfl rfl) (λ_ h=>h.elim) (λw f hM=>(Ko (k3.size+1) w f hM.vl A ({s with vars:=v,datas:=(tx,(nums.length:Int))::s.datas,cons:=cl}:CS) hM.res.1 hwc hM.f4 op3 ln3 co3 nm3 tx3 k3 ka4 kc4 (.map (some vm)) m (Nat.lt_succ_self _) oM htx3 hkx3 (.inr ⟨vm,rfl,hM.res.2,hdm,hmv⟩) hM.f0).mono (λ_ _ ⟨x,f2,h1,h2,h3,h4⟩=>⟨x,f2,h1,h2,h3.mono (λ_ h=>h.elim),(hM.call0 h3).res,h4⟩) λ_ _ h=>h) (λ_=>DT.stab) (λ_=>⟨Al.mono,tQ⟩) (λer w2 f2 he hE=>⟨rfl,er,f2,rfl,(by rw[G3,if_neg hnd0,hdv2];simp only;rw[hdc,No hop2 hcl (by rw[hty,IV he])]),hE⟩) ?_;rintro⟨q5,qa,qc⟩ ⟨hp5,hqb⟩;dsimp only at hp5 hqb ⊢;refine Aa 1 [] (λ_=>Au [0,2,3,4] rfl<|Af rfl ?_ ?_);refine Aa 2 [1] (y<|λ_=>Au [0,2,3,4] rfl<|Af rfl ?_ Aj);refine Aa 2 [] (λb17=>λ_=>Au [1,3,4,5] rfl<|Af rfl ?_ Aj);refine CT 0 0 rfl rfl CU rfl rfl rfl rfl rfl rfl rfl rfl (λ_ _=>rfl) oM oM λra6 rc6=>Aa 1 [] (λ_=>Au [1,3,4,5] rfl<|A1 1 [] (λ_=>Af rfl ?_ Aj));exact Aa 2 [2] (y<|λ_=>Au [1,3,4,5] rfl<|Bf<|Aa 6 [] (aI ⟨oM,oM⟩<|λ_=>CY ((i4+1,r4,dn.snoc q5,xs4++tC q5 qa qc,ra6,rc6)) (show r4.len<(Nd.cons op3 ln3 co3 tx3 nm3 k3 r4).len from Nat.lt_succ_self _) ⟨show i4+1+r4.len=_ by omega,show (dn.snoc _).len=i4+1 by rw[Ty.len_snoc,hdl2],hty.trans (Gv hp5),show (dn.snoc _).bnd from Ty.bnd_snoc hdb hqb,hrx3,show r4.size≤_ by omega⟩ lE (λw f hM=>⟨_,(hM.more (B':=[]) (F':=[λw f=>Be w f (dn.snoc q5) (xs4++tC q5 qa qc)]) nE (AE.mem ⟨Be.snoc hM.f0 hM.f4,tQ⟩) (Aw.mem ⟨Be.mono,tQ⟩)).less (sD (sD (sK (sK (sK (sK sZ)))))) sR nE (mR [3,0,6,7,8,9])⟩)));refine Af rfl ?_ Aj;refine Aa 2 [] (λb18=>λ_=>Au [1,3,4,5] rfl<|Af rfl ?_ Aj);refine Aa 2 [2] (y<|λ_=>Au [1,3,4,5] rfl<|Af rfl ?_ Aj);refine CT 0 0 rfl rfl CU rfl rfl rfl rfl rfl rfl rfl rfl (λ_ _=>rfl) oM oM λra6 rc6=>Aa 1 [] (λ_=>Au [1,3,4,5] rfl<|A1 1 [] (λ_=>Af rfl ?_ Aj));exact Aa 2 [2] (y<|λ_=>Au [1,3,4,5] rfl<|Bf<|Aa 6 [] (aI ⟨oM,oM⟩<|λ_=>CY ((i4+1,r4,dn.snoc q5,xs4++tC q5 qa qc,ra6,rc6)) (show r4.len<(Nd.cons op3 ln3 co3 tx3 nm3 k3 r4).len from Nat.lt_succ_self _) ⟨show i4+1+r4.len=_ by omega,show (dn.snoc _).len=i4+1 by rw[Ty.len_snoc,hdl2],hty.trans (Gv hp5),show (dn.snoc _).bnd from Ty.bnd_snoc hdb hqb,hrx3,show r4.size≤_ by omega⟩ lE (λw f hM=>⟨_,(hM.more (B':=[]) (F':=[λw f=>Be w f (dn.snoc q5) (xs4++tC q5 qa qc)]) nE (AE.mem ⟨Be.snoc hM.f0 hM.f4,tQ⟩) (Aw.mem ⟨Be.mono,tQ⟩)).less (sD (sD (sK (sK (sK (sK sZ)))))) sR nE (mR [3,0,6,7,8,9])⟩)));refine Aa 3 [] (λ_=>EH<|Aa 2 [] (λ_=>?_));obtain rfl:r4=.nil:=Nd.len0 (by have:=of_decide_eq_false h5;omega)
   have hty2:FR ((tx,(nums.length:Int))::s.datas) m k2=.ok dn:=by rw[hty];show (Except.ok (dn.app .nil):RI Ty)=_;rw[Ty.app_nil]
   have hdk:dn.len≤200000:=by have:i4+0=k2.len:=hi4;omega
   subst hdl2;refine LF (λw f=>Al w f dn ra5 rc5) Al.mono (λw f hM=>Ha hM hM.f1)<|Ki (λw=>AI w A.cb [pB A.sb,.map (some A.km),.map (some A.dm),.map (some A.rm),iV v] 84) (λw f h _=>h.1.blk) [0,1,2,3] Ak (rd [0,1,2,3,4,5,6] (.br 7 .fin .fin)) rfl kR kR kR (λ_ _ _ _ _ h=>h)<|A1 3 [] (λ_=>F6 rfl rfl rfl (λw hK=>Ai rfl OG hK.2.2 rfl)<|A1 3 [1,0] (y<|y<|λ_=>Af rfl ?_ Aj));exact rJ (m:=⟨dn,.con tx self,nums⟩) (aa:=ra5) (ac:=rc5) (oa:=ra) (oc:=rc) (va:=na2) (vc:=nc2) (i1:=0) (i2:=5) (i3:=4) hA hvm hwc rfl rfl rfl rfl (by unfold aA tC;simp only[T1.kids,hsl];rfl) OI FH hcl rfl rfl rfl<|Aa 1 [] (λ_=>AW [0,1,2,3] (λw f h _=>h.1.blk) rfl (λ_ h=>h)<|Bf<|Aa 6 [] (aI ⟨oM,oM⟩<|λ_=>CY ((j+1,r,(tx2,⟨dn,.con tx self,nums⟩)::cl)) (show r.len<(Nd.cons op2 ln2 co2 tx2 nm2 k2 r).len from Nat.lt_succ_self _) ⟨show j+1+r.len=_ by omega,hdc.trans (SQ hop2 hcl hty2),hwc.addCons hcl ⟨hdk,hdb,Dc oM oM hsb,by dsimp only;omega⟩,hrx2,show r.size≤_ by omega⟩ lE (λw f hM=>⟨_,hM.less (sD (sD (sK (sK sZ)))) sR nE (mR [6,4,5,3])⟩)))
  |some mk =>
   refine Kb (α:=Option Addr×Nat×Option Addr×Nat×Option Addr×Nat) (λx=>Em es tx2=some (.agg (aA mk x.1 x.2.1 x.2.2.1 x.2.2.2.1 x.2.2.2.2.1 x.2.2.2.2.2).toArray)) (λx=>[]) (λx=>[]) (λw f hM=>let ⟨aa,ac,oa,oc,va,vc,h1,_⟩:=(BU.look hM.res.2.2).2 mk hcl;⟨(aa,ac,oa,oc,va,vc),h1,nE,nE⟩) (λx _ h=>by cases h) ?_;rintro⟨aa,ac,oa,oc,va,vc⟩ hlk;refine Ki (λw=>AI w A.cb [pB A.sb,.map (some A.km),.map (some A.dm),.map (some A.rm),iV v] 84∧BF BN w A.km es) (λw f h _=>⟨h.1.1.blk,h.2.1⟩) [0,1,2] Ak (rd [0,1,2,3,4,5,6,7,8,9] (.br 10 (.br 11 (.rd 12 .fin) .fin) .fin)) rfl kR kR kR (λ_ _ _ _ _ h=>h)<|A1 3 [] (λ_=>F6 rfl rfl rfl (λw hK=>Ai rfl OG hK.2.2.1 rfl)<|A1 2 [0] (y<|λ_=>F6 rfl rfl rfl (λw hK=>IW (K:=BN) (a:=tx2) rfl rfl OI FH PS hK.2.2.2 hdis hlk)<|A1 3 [] (λ_=>Af rfl ?_ Aj)));refine Aa 2 [] (λb19=>λ_=>AW [1,2,3] (λw f h _=>⟨h.1.1.blk,h.2.1⟩) rfl (λ_ h=>h)<|Af rfl ?_ Aj);exact Aa 2 [0] (y<|λ_=>AW [1,2,3] (λw f h _=>⟨h.1.1.blk,h.2.1⟩) rfl (λ_ h=>h)<|A1 1 [] (λ_=>Bf<|Aa 7 [1] (y<|λ_=>M6 rfl rfl (eC Eh rfl rfl) (λ_ h=>h.elim) (λw f hM=>(Cj w f hM.vl false ln2 co2).mono (λ_ _ ⟨_,_,_,h,_⟩=>by cases h) λ_ _ h=>h) (λer w2 f2 he hE=>⟨rfl,er,f2,rfl,(by rw[G3,if_neg hnd0,hdv2];simp only;rw[hdc,Pa hop2 hcl,he.2]),hE⟩))))
  refine Aa 3 [] (λ_=>EH<|Aa 1 [] (λ_=>?_));obtain rfl:r=.nil:=Nd.len0 (by have:=of_decide_eq_false h3;omega);have hdc2:Dz ((tx,(nums.length:Int))::s.datas) m (.con tx self) nums kids s.cons=.ok cl:=hdc;exact dX (λw f hM=>D0 rfl) (λw f hM=>⟨({s with vars:=v,datas:=(tx,(nums.length:Int))::s.datas,cons:=cl}:CS),f,rfl,⟨(by rw[G3,if_neg hnd0,hdv2];simp only;rw[hdc2]),hwc,rfl,by dsimp only;omega,hv2⟩,hM.exm,hM.res.1,tQ⟩)
 |some cnt =>
  refine Ki (λw=>AI w A.cb [pB A.sb,.map (some A.km),.map (some A.dm),.map (some A.rm),iV s.vars] 84∧BF BN w A.dm (s.datas.map λp=>(p.1,iV p.2))) (λw f h _=>⟨h.blk,h.datas⟩) [0] Ak (rd [0,1,2,3,4,5,6,7,8,9,10,11] .fin) rfl kR kR kR (λ_ _ _ _ _ h=>h)<|A1 3 [] (λ_=>F6 rfl rfl rfl (λw hK=>Ai rfl QC hK.2.2.1 rfl)<|A1 2 [0] (y<|λ_=>F6 rfl rfl rfl (λw hK=>IW (K:=BN) (a:=tx) (v:=iV cnt) rfl rfl RS FH eR hK.2.2.2 hw.dd (by rw[Eg (λc=>Value.int .i64 c),hdl];rfl))<|A1 5 [] (λ_=>Bf<|Aa 2 [] (λ_=>Cv [0] Ak (rd [0,1,2,3,4,5,6,10,11] (.br 7 (.rd 8 (.rd 9 (.br 12 .fin .fin))) .fin)) rfl kR<|A1 9 [0] (y<|λ_=>?_)))));refine Af rfl ?_ Aj;refine Aa 2 [] (λ_=>Au [0] rfl<|A1 2 [] (λ_=>Af rfl ?_ Aj));exact M6 rfl rfl (eC Eh rfl rfl) (λ_ h=>h.elim) (λw f hM=>(Cj w f hM.vl false ln co).mono (λ_ _ ⟨_,_,_,h,_⟩=>by cases h) λ_ _ h=>h) (λer w2 f2 he hE=>⟨rfl,er,f2,rfl,(by rw[G3,if_pos (by rw[hdl];rfl),he.2]),hE⟩)
theorem XR(w:World)(f:Fq)(hv:Vl w f)(hG:EE w f)(ob:Nat)(oa:Option Addr)(oc n0:Nat)(oxs:List Value)(l:List QI)(hP:D7 121 124 ob (.slice oa n0 oc) oa oc n0 oxs w f)(hL:CG w f l oxs)(hf:∀b,Nx ob oa b→f b=0)(hn0:n0≤1000)(nms:lU)(fs:List lU)(hfs:Lib.fields nms=fs)(hns:nms.length≤1000)(hasc:nms.all (λc=>decide (c.toNat<128))=true)(hfl:fs.length≤1000)(k:Ty)(ka:Option Addr)(kc:Nat)(hk0:0<k.len)(hkl:k.len≤1000)(hkb:k.bnd)(hT:Al w f k ka kc) :
  Bo prog 81 #[S nms,.slice ka k.len kc,pB ob] w (JV (α:=Option Addr×Nat×List Value) (λ_=>.tuple #[]) (λ_=>True) (Nx ob oa) (λx=>Nx ob x.1) (λx=>D7 121 124 ob (.slice x.1 (n0+fs.length) x.2.1) x.1 x.2.1 (n0+fs.length) x.2.2) (λx=>[λw f=>CG w f (l++fs.map (λnm=>(nm,(k.len:Int)-1,Hj k))) x.2.2]) w f):=by
 refine Cg (X:=⟨Nx ob oa,Nx ob oa,D7 121 124 ob (.slice oa n0 oc) oa oc n0 oxs,w,f⟩) (H:=[]) (R:=[]) (B:=[]) (Fs:=[λw f=>EE w f,λw f=>Al w f k ka kc,λw f=>CG w f l oxs]) (f:=f) func81 rfl rfl rfl (RZ (M:=Nx ob oa) hv hP D7.stab (λb hb=>⟨hP.lt hb,hf b hb⟩) ⟨hG,hT,hL,tQ⟩ ⟨EE.mono,Al.mono,CG.mono,tQ⟩)<|Aa 3 [] (λ_=>Br rfl rfl (eC kX rfl rfl) (λw f hM=>RN w f hM.vl hM.f0 nms oM hasc) (λx=>⟨YN.mono,tQ⟩) ?_);rintro⟨sa,sc⟩ -;rw[hfs];refine Aa 5 [] (λ_=>?_);refine EZ (α:=Nat×Option Addr×Nat×List Value) (λx=>fs.length-x.1) (λx=>x.1≤fs.length) (λx=>(E5 1 (.slice ka k.len kc) 2 (pB ob) 8 (.slice sa fs.length sc) 9 (iV (fs.length:Int)) 10 (iV (x.1:Int)))) (λx=>⟨Nx ob oa,Nx ob x.2.1,D7 121 124 ob (.slice x.2.1 (n0+x.1) x.2.2.1) x.2.1 x.2.2.1 (n0+x.1) x.2.2.2,w,f⟩) (λx=>[]) (λx=>[]) (λx=>[]) (λx=>[λw f=>YN w f fs sa sc,λw f=>Al w f k ka kc,λw f=>CG w f (l++(fs.take x.1).map (λnm=>(nm,(k.len:Int)-1,Hj k))) x.2.2.2]) (0,oa,oc,oxs) (Nat.zero_le _) lE (λw f hM=>(by have hM9:=hM.more (B':=[]) (F':=[λw f=>CG w f (l++(fs.take 0).map (λnm=>(nm,(k.len:Int)-1,Hj k))) oxs]) nE (AE.mem ⟨by simpa using hM.f3,tQ⟩) (Aw.mem ⟨CG.mono,tQ⟩);exact hM9.less sR sR nE (mR [1,3,0]))) ?_;rintro⟨i,oa2,oc2,xs⟩ hi;dsimp only at hi ⊢;refine Aa 6 [] (λ_=>AJ 11 rfl rfl (λh1=>?_) (λh1=>?_));refine Aa 6 [] (λ_=>?_);have hil:i<fs.length:=by have:=of_decide_eq_true h1;omega
 obtain⟨nm,hx⟩:∃v,fs[i]?=some v:=⟨_,List.getElem?_eq_getElem hil⟩;refine Kb (α:=Nat) (λx=>sa=some ⟨x,0,none⟩) (λx=>[⟨x,0+i*1,[S nm]⟩]) (λx=>[]) (λw f hM=>let ⟨_,b,h1,h2⟩:=hM.f0;⟨b,h1,(λe he=>by cases he with|head=>(rw[Nat.mul_one];exact Cs.at h2 (by rw[List.getElem?_map,hx];rfl))|tail _ h=>cases h),λ_ h=>by cases h⟩) (λx=>Aw.mem tQ) ?_;rintro sb rfl;refine Aa 6 [100,0] (aI oM<|y2<|λ_=>Cv [] Ak (rd [1,2,3,4,5] (.br 0 (.br 6 (.rd 7 (.br 8 (.br 9 (.br 10 .fin .fin) .fin) .fin)) .fin) (.br 6 (.rd 7 (.br 0 (.br 8 (.br 9 (.br 10 .fin .fin) .fin) .fin) (.br 8 (.br 0 (.br 9 (.br 10 .fin .fin) .fin) .fin) .fin))) .fin))) rfl kR<|A1 5 [] (aI ⟨oM,oM⟩<|λ_=>Af rfl ?_ ?_));refine D6 rfl rfl (λw f hM=>Ai rfl JF hM.res.blk rfl)<|Aa 1 [] (λ_=>Au [] rfl<|Af rfl ?_ Aj);refine Br rfl rfl (eC Pr rfl rfl) (λw f hM=>LY w f hM.vl k ka kc hk0 oM hkb hM.f1) (λx=>⟨Al.mono,tQ⟩) ?_;rintro⟨ta,tc⟩ -;refine Aa 1 [] (λ_=>Au [] rfl<|A1 1 [] (λ_=>Af rfl ?_ Aj));refine Aa 2 [] (λb1=>λ_=>Au [] rfl<|Af rfl ?_ Aj);refine MA (MI':=Nx ob) (I':=λa' c'=>D7 121 124 ob (.slice oa2 (n0+i) oc2) a' c' (n0+i+1) (xs++pC (nm,(k.len:Int)-1,Hj k) ta tc)) 0 rfl rfl S0 rfl rfl rfl rfl rfl rfl rfl oM oM (λw f h=>h.row) (λb h=>.inr h) (λ_ _ h=>Nx.or h) (λw f w2 a2 c2 h hM hr hG=>h.app hr hG) (λ_ _=>D7.stab) λa2 c2=>Aa 1 [] (λ_=>Au [] rfl<|Af rfl ?_ Aj);exact SJ (b:=ob) (I':=D7 121 124 ob (.slice a2 (n0+i+1) c2) a2 c2 (n0+i+1) (xs++pC (nm,(k.len:Int)-1,Hj k) ta tc)) rfl rfl rfl rfl JF rfl rfl rfl (.inl rfl) (λw f h=>h.blk) (λw f w2 h hM hC hb=>h.store hC hb) D7.stab<|Aa 1 [] (λ_=>Au [] rfl<|Bf<|Aa 6 [] (aI ⟨oM,oM⟩<|λ_=>CY ((i+1,a2,c2,xs++pC (nm,(k.len:Int)-1,Hj k) ta tc)) (show fs.length-(i+1)<fs.length-i by omega) (show i+1≤_ by omega) lE (λw f hM=>⟨_,(hM.more (B':=[]) (F':=[λw f=>CG w f (l++(fs.take (i+1)).map (λnm=>(nm,(k.len:Int)-1,Hj k))) (xs++pC (nm,(k.len:Int)-1,Hj k) ta tc)]) nE (AE.mem ⟨by rw[BA hx,List.map_append,← List.append_assoc];exact CG.snoc (p:=(nm,(k.len:Int)-1,Hj k)) hM.f0 hM.f3,tQ⟩) (Aw.mem ⟨CG.mono,tQ⟩)).less (sD sZ) sR nE (mR [2,3,0])⟩)));refine Af rfl ?_ Aj;refine Br rfl rfl (eC Pr rfl rfl) (λw f hM=>LY w f hM.vl k ka kc hk0 oM hkb hM.f1) (λx=>⟨Al.mono,tQ⟩) ?_;rintro⟨ta,tc⟩ -;refine Aa 1 [] (λ_=>Au [] rfl<|A1 1 [] (λ_=>Af rfl ?_ ?_));refine D6 rfl rfl (λw f hM=>Ai rfl JF hM.res.blk rfl)<|Aa 1 [] (λ_=>Au [] rfl<|Af rfl ?_ Aj);refine Aa 2 [] (λb2=>λ_=>Au [] rfl<|Af rfl ?_ Aj);refine MA (MI':=Nx ob) (I':=λa' c'=>D7 121 124 ob (.slice oa2 (n0+i) oc2) a' c' (n0+i+1) (xs++pC (nm,(k.len:Int)-1,Hj k) ta tc)) 0 rfl rfl S0 rfl rfl rfl rfl rfl rfl rfl oM oM (λw f h=>h.row) (λb h=>.inr h) (λ_ _ h=>Nx.or h) (λw f w2 a2 c2 h hM hr hG=>h.app hr hG) (λ_ _=>D7.stab) λa2 c2=>Aa 1 [] (λ_=>Au [] rfl<|Af rfl ?_ Aj)
 exact SJ (b:=ob) (I':=D7 121 124 ob (.slice a2 (n0+i+1) c2) a2 c2 (n0+i+1) (xs++pC (nm,(k.len:Int)-1,Hj k) ta tc)) rfl rfl rfl rfl JF rfl rfl rfl (.inl rfl) (λw f h=>h.blk) (λw f w2 h hM hC hb=>h.store hC hb) D7.stab<|Aa 1 [] (λ_=>Au [] rfl<|Bf<|Aa 6 [] (aI ⟨oM,oM⟩<|λ_=>CY ((i+1,a2,c2,xs++pC (nm,(k.len:Int)-1,Hj k) ta tc)) (show fs.length-(i+1)<fs.length-i by omega) (show i+1≤_ by omega) lE (λw f hM=>⟨_,(hM.more (B':=[]) (F':=[λw f=>CG w f (l++(fs.take (i+1)).map (λnm=>(nm,(k.len:Int)-1,Hj k))) (xs++pC (nm,(k.len:Int)-1,Hj k) ta tc)]) nE (AE.mem ⟨by rw[BA hx,List.map_append,← List.append_assoc];exact CG.snoc (p:=(nm,(k.len:Int)-1,Hj k)) hM.f0 hM.f3,tQ⟩) (Aw.mem ⟨CG.mono,tQ⟩)).less (sD sZ) sR nE (mR [2,3,0])⟩)));refine Af rfl ?_ Aj;refine Aa 2 [] (λb3=>λ_=>Au [] rfl<|Af rfl ?_ Aj);refine D6 rfl rfl (λw f hM=>Ai rfl JF hM.res.blk rfl)<|Aa 1 [] (λ_=>Au [] rfl<|Af rfl ?_ Aj);refine MA (MI':=Nx ob) (I':=λa' c'=>D7 121 124 ob (.slice oa2 (n0+i) oc2) a' c' (n0+i+1) (xs++pC (nm,(k.len:Int)-1,Hj k) ta tc)) 0 rfl rfl S0 rfl rfl rfl rfl rfl rfl rfl oM oM (λw f h=>h.row) (λb h=>.inr h) (λ_ _ h=>Nx.or h) (λw f w2 a2 c2 h hM hr hG=>h.app hr hG) (λ_ _=>D7.stab) λa2 c2=>Aa 1 [] (λ_=>Au [] rfl<|Af rfl ?_ Aj);exact SJ (b:=ob) (I':=D7 121 124 ob (.slice a2 (n0+i+1) c2) a2 c2 (n0+i+1) (xs++pC (nm,(k.len:Int)-1,Hj k) ta tc)) rfl rfl rfl rfl JF rfl rfl rfl (.inl rfl) (λw f h=>h.blk) (λw f w2 h hM hC hb=>h.store hC hb) D7.stab<|Aa 1 [] (λ_=>Au [] rfl<|Bf<|Aa 6 [] (aI ⟨oM,oM⟩<|λ_=>CY ((i+1,a2,c2,xs++pC (nm,(k.len:Int)-1,Hj k) ta tc)) (show fs.length-(i+1)<fs.length-i by omega) (show i+1≤_ by omega) lE (λw f hM=>⟨_,(hM.more (B':=[]) (F':=[λw f=>CG w f (l++(fs.take (i+1)).map (λnm=>(nm,(k.len:Int)-1,Hj k))) (xs++pC (nm,(k.len:Int)-1,Hj k) ta tc)]) nE (AE.mem ⟨by rw[BA hx,List.map_append,← List.append_assoc];exact CG.snoc (p:=(nm,(k.len:Int)-1,Hj k)) hM.f0 hM.f3,tQ⟩) (Aw.mem ⟨CG.mono,tQ⟩)).less (sD sZ) sR nE (mR [2,3,0])⟩)));refine Aa 3 [] (λ_=>EH<|Aa 1 [] (λ_=>?_));obtain rfl:i=fs.length:=by have:=of_decide_eq_false h1;omega
 exact dX (λw f hM=>D0 rfl) (λw f hM=>⟨(oa2,oc2,xs),f,rfl,tQ,hM.exm,(λb hb=>let ⟨h1,h2,h3⟩:=hM.mi b hb;h3.elim (λh=>.inr ⟨h,h1,h2⟩) .inl),hM.res,⟨by have h9:=hM.f2;rw[List.take_length] at h9;exact h9,tQ⟩⟩)
def PH:List Value:=[S [70,97,108,115,101],S [98,111,111,108],iV 0,iV 0,S [84,114,117,101],S [98,111,111,108],iV 1,iV 0,S [68,105,118],S [101,120,110],iV 0,iV 0,S [77,97,116,99,104],S [101,120,110],iV 1,iV 0,S [65,98,111,114,116],S [101,120,110],iV 2,iV 0,S [75,101,101,112],S [101,120,110],iV 3,iV 0,S [79,117,116],S [101,120,110],iV 4,iV 0,S [70,97,105,108],S [101,120,110],iV 5,iV 1]
theorem TO(w:World)(f:Fq)(hv:Vl w f)  :
  Bo prog 53 #[.slice none 0 0] w (Bx (α:=Nat) (λb=>.slice (some ⟨b,0,none⟩) 8 8) (λ_=>True) (λb=>[λw f=>Cs w f b 0 PH]) w f):=by
 refine Cg (X:=X0 w f) (H:=[]) (R:=[]) (B:=[]) (Fs:=[]) (f:=f) func53 rfl rfl rfl (BS hv tQ tQ)<|Aa 28 [] (λb1=>λ_=>?_);refine EZ (α:=Unit) (λx=>0) (λx=>True) (λx=>(E3 3 (.slice (some ⟨b1,0,none⟩) 8 8) 19 (iV ((0:Nat):Int)) 20 (iV 0))) (λx=>X0 w f) (λx=>[⟨b1,PH,118,true⟩]) (λx=>[]) (λx=>[]) (λx=>[]) (()) tQ lE (λw f hM=>hM) ?_;rintro⟨⟩ -;exact Aa 9 [] (λ_=>EH<|Aa 9 [] (λ_=>CJ 0 rfl rfl<|AL (C3 rfl rfl) (λw f hM=>⟨b1,f,rfl,tQ,hM.exm,⟨hM.b0,tQ⟩⟩)))
abbrev uP:=Nat×Nat×Nat×Nat×(Option Addr×Nat)×(Option Addr×Nat)
abbrev Q3:=T1×Option Addr×Nat
abbrev qI:Q3:=(c0 bI,none,0)
abbrev qF:Q3:=(c0 bF,none,0)
abbrev qS:Q3:=(c0 bS,none,0)
abbrev qB:Q3:=(c0 bB,none,0)
abbrev qU:Q3:=(c0 bU,none,0)
abbrev qV:Q3:=(.var 1,none,0)
abbrev qR(a:Option Addr)(c:Nat):Q3:=(T1.con I6 (T1.var 1).one,a,c)
abbrev qP(a:Option Addr)(c:Nat):Q3:=(T1.con CK (T1.var 1).one,a,c)
def pm(x:lU)(l:List Q3):QI:=(x,((Ss l).len:Int)-1,Hj (Ss l))
theorem kI:(c0 bI).bnd:=CF dC
theorem kF:(c0 bF).bnd:=CF dC
theorem kS:(c0 bS).bnd:=CF dC
theorem kB:(c0 bB).bnd:=CF dC
theorem kU:(c0 bU).bnd:=CF dC
theorem kV:(T1.var 1).bnd:=Bw _
variable {Q:AT}{σ:Ba}{f:Fq}{ds:List Deferred}{B:List FB}{fs:List Fr}{H H':List HB}{xs:List Value}{b d n n0 ob oc:Nat}{M:Nat→Prop}{g:Option (Nat×Bool)}{oa:Option Addr}{T:TypeId}{w w0:World}
theorem qN:Al w f .nil none 0:=Al.nil _ _ _ _
def SE:List Nat→Nat→Bool
 | [],_=>false
 |a::l,b=>bif Nat.beq a b then true else SE l b
def sU(c:Bool)(d:Nat)(v:Value)(σ:Ba):Ba:=bif c then AA σ d v else σ
def sL{α:Type}(c:Bool)(e:α)(l:List α):List α:=bif c then e::l else l
def KK(b1 b2 b3 b4 b5 b6:Nat)(S:List Nat)(x:uP):Ba :=
 sU (SE S 7) 8 (pB x.2.2.2.1)<|sU (SE S 6) 7 (pB x.2.2.1)<|sU (SE S 5) 22 (tV (T1.con CK (T1.var 1).one) x.2.2.2.2.2.1 x.2.2.2.2.2.2)<|sU (SE S 2) 19 (tV (T1.con I6 (T1.var 1).one) x.2.2.2.2.1.1 x.2.2.2.2.1.2) <|
 sU (SE S 4) 21 (.slice (some ⟨x.2.1,0,none⟩) 1 1)<|sU (SE S 1) 18 (.slice (some ⟨x.1,0,none⟩) 1 1)<|E8 1 (pB b1) 2 (pB b2) 3 (pB b3) 4 (pB b4) 5 (pB b5) 6 (pB b6) 17 (tV (.var 1) none 0) 20 (tV (.var 1) none 0)
def D2(b1 b2 b3 b4 b5 b6:Nat)(S:List Nat)(x:uP):List HB :=
 sL (SE S 7) ⟨x.2.2.2.1,zT,76,true⟩<|sL (SE S 6) ⟨x.2.2.1,zT,76,true⟩<|sL (SE S 4&&!SE S 5) ⟨x.2.1,tC (.var 1) none 0,76,true⟩<|sL (SE S 1&&!SE S 2) ⟨x.1,tC (.var 1) none 0,76,true⟩ [⟨b6,tC (.var 1) none 0,76,true⟩,⟨b5,tC (c0 bU) none 0,76,true⟩,⟨b4,tC (c0 bB) none 0,76,true⟩,⟨b3,tC (c0 bS) none 0,76,true⟩,⟨b2,tC (c0 bF) none 0,76,true⟩,⟨b1,tC (c0 bI) none 0,76,true⟩]
def f16(S:List Nat)(x:uP):List (World→Fq→Prop) :=
 sL (SE S 5) (λw f=>Al w f (T1.var 1).one x.2.2.2.2.2.1 x.2.2.2.2.2.2)<|sL (SE S 2) (λw f=>Al w f (T1.var 1).one x.2.2.2.2.1.1 x.2.2.2.2.1.2) [λw f=>EE w f]
def Cc:List QI:=[pm [43] [qI,qI,qI],pm [45] [qI,qI,qI],pm [42] [qI,qI,qI],pm [100,105,118] [qI,qI,qI],pm [109,111,100] [qI,qI,qI],pm [110,101,103] [qI,qI],pm [60] [qI,qI,qB],pm [60,61] [qI,qI,qB],pm [61] [qI,qI,qB],pm [102,43] [qF,qF,qF],pm [102,45] [qF,qF,qF],pm [102,42] [qF,qF,qF],pm [102,47] [qF,qF,qF],pm [102,115,113,114,116] [qF,qF],pm [102,110,101,103] [qF,qF],pm [102,60] [qF,qF,qB],pm [102,61] [qF,qF,qB],pm [102,97,104,101,97,100] [qF,qF,qB],pm [105,116,111,102] [qI,qF],pm [102,116,111,105] [qF,qI],pm [102,98,105,116,115] [qF,qS],pm [110,97,110] [qF],pm [105,110,102] [qF],pm [99,97,116] [qS,qS,qS],pm [108,101,110] [qS,qI],pm [111,114,100] [qS,qI],pm [97,116,111,105] [qS,qI],pm [115,117,98] [qS,qI,qI,qS],pm [115,61] [qS,qS,qB],pm [115,60] [qS,qS,qB],pm [105,116,111,97] [qI,qS],pm [99,104,114] [qI,qS],pm [112,114,105,110,116] [qS,qU],pm [114,101,97,100] [qU,qS],pm [114,101,102] [qV,(qR none 0)],pm [103,101,116] [(qR none 0),qV],pm [115,101,116] [(qR none 0),qV,qU],pm [110,101,119] [qV,(qP none 0)],pm [108,111,97,100] [(qP none 0),qV],pm [115,116,111,114,101] [(qP none 0),qV,qU]]
def Z4:List (T1×Option Addr×Nat)→Prop
 | []=>True
 |t::l=>t.1.bnd∧Z4 l
theorem PW:∀{l:List (T1×Option Addr×Nat)},Z4 l→(Ss l).bnd
 | [],_=>trivial
 |_::_,h=>T1.bnd_cons.2 ⟨h.1,PW h.2⟩
theorem G8{f0:Fq}{F0:List (World→Fq→Prop)}{all r:List Oper}{gg:Operand}{args:List Operand}{ts:Array TypeId}{ty:TypeId}{pos:String}{af:Array Edge}{NM:lU}(kb n1:Nat)(lst:List Q3)
  (hgv:ev σ gg=some (.func (.func 81) #[] [Value.pointer (some ⟨ob,0,none⟩)].toArray)) (hga:Ii σ args=some [S NM,.slice (some ⟨b,0,none⟩) lst.length lst.length]) (hg:gd all σ g=some true) (hd:Nat.blt d n=true) (hk:Hd H kb=some ⟨b,oU lst,T,true⟩) (hs:Ke H kb=some H')
  (hG:∀w f H B,AO ⟨M,Nx ob oa,D7 121 124 ob (.slice oa n0 oc) oa oc n0 xs,w0,f0⟩ w f H [] B ((λw f=>CG w f (Cc.take n0) xs)::F0)→EE w f∧tP w f lst) (hbd:Z4 lst)
  (h:∀a c xs,A3 prog n Q ds ⟨M,Nx ob a,D7 121 124 ob (.slice a n1 c) a c n1 xs,w0,f0⟩ [] B ((λw f=>CG w f (Cc.take n1) xs)::F0) (.ops all r) fs (AA σ d (.tuple #[])) H')
  (hp:Cc.take n0++(Lib.fields NM).map (λnm=>(nm,((Ss lst).len:Int)-1,Hj (Ss lst)))=Cc.take n1:=by kernel_rfl) (hn:n0+(Lib.fields NM).length=n1:=by kernel_rfl)
  (hc:(Nat.ble n0 1000&&(Nat.ble NM.length 1000&&(NM.all (λc=>decide (c.toNat<128))&&(Nat.ble (Lib.fields NM).length 1000&&(Nat.blt 0 lst.length&&Nat.ble lst.length 1000)))))=true:=by kernel_rfl) :
  A3 prog n Q ds ⟨M,Nx ob oa,D7 121 124 ob (.slice oa n0 oc) oa oc n0 xs,w0,f0⟩ [] B ((λw f=>CG w f (Cc.take n0) xs)::F0) (.ops all (⟨some d,.call {callee:=.value gg,args:=args.toArray,argTypes:=ts},ty,pos,af,g⟩::r)) fs σ H:=by
 simp only[Bool.and_eq_true] at hc;obtain⟨h1,h2,h3,h4,h5,h6⟩:=hc;have e:=Pu lst;have h5':0<(Ss lst).len:=by rw[e];exact Nat.le_of_ble_eq_true h5
 have h6':(Ss lst).len≤1000:=by rw[e];exact Nat.le_of_ble_eq_true h6
 subst hn;have he':∀w,SW.Enters prog σ (.call {callee:=.value gg,args:=args.toArray,argTypes:=ts}) ty w 81 #[S NM,.slice (some ⟨b,0,none⟩) (Ss lst).len lst.length,pB ob]:=by rw[e];exact λ_=>Qi lP hgv hga
 refine CJ kb hk hs<|CP (λw f=>Al w f (Ss lst) (some ⟨b,0,none⟩) lst.length) (λw f hM=>CL (hG w f _ _ hM).2 hM.b0) Al.mono<|S5 (XX:=λ_ _=>False) hg hd he' (λw f hM=>(XR w f hM.vl (hG w f _ _ (hM.less sR sR (λ_ h=>h) (λ_ h=>.tail _ h))).1 ob oa oc n0 xs (Cc.take n0) hM.res hM.f1 hM.mz (Nat.le_of_ble_eq_true h1) NM (Lib.fields NM) rfl (Nat.le_of_ble_eq_true h2) h3 (Nat.le_of_ble_eq_true h4) (Ss lst) (some ⟨b,0,none⟩) lst.length h5' h6' (PW hbd) hM.f0).retP) (λ_=>D7.stab) (λ_=>⟨CG.mono,tQ⟩) (λ_ _ _ _ _ h=>h.elim) ?_;rintro⟨a,c,xs'⟩ -;refine λw f hM=>h a c xs' w f ?_;rw[← hp];refine hM.less sR sR (λe he=>.tail _ he) (λφ hφ=>?_);rcases List.mem_cons.1 hφ with rfl|hφ
 · exact .head _
 · exact .tail _ (.tail _ (.tail _ hφ))
def Rr:OT:=.br 9 .fin .fin
def HH:OT:=.br 8 Rr .fin
def H9:OT:=.br 5 HH .fin
def Jd:OT:=.br 2 H9 .fin
def Ma:OT:=.br 1 Jd .fin
def Ky:OT:=.br 4 H9 .fin
def LV:OT:=.br 2 Ky (.br 4 Jd .fin)
def TU:OT:=.br 1 LV (.br 4 Ma .fin)
def Lh:OT:=.br 6 HH .fin
def KH:OT:=.br 5 Lh (.br 6 H9 .fin)
def LO:OT:=.br 2 KH (.br 6 Jd .fin)
def TN:OT:=.br 1 LO (.br 6 Ma .fin)
def Py:OT:=.br 4 KH (.br 6 Ky .fin)
def Ua:OT:=.br 2 Py (.br 4 LO (.br 6 LV .fin))
def eU:OT:=.br 1 Ua (.br 4 TN (.br 6 TU .fin))
def KW:OT:=.br 7 HH .fin
def Km:OT:=.br 5 KW (.br 7 H9 .fin)
def LR:OT:=.br 2 Km (.br 7 Jd .fin)
def Te:OT:=.br 1 LR (.br 7 Ma .fin)
def PO:OT:=.br 4 Km (.br 7 Ky .fin)
def S3:OT:=.br 2 PO (.br 4 LR (.br 7 LV .fin))
def fG:OT:=.br 1 S3 (.br 4 Te (.br 7 TU .fin))
def QO:OT:=.br 6 KW (.br 7 Lh .fin)
def PG:OT:=.br 5 QO (.br 6 Km (.br 7 KH .fin))
def Tp:OT:=.br 2 PG (.br 6 LR (.br 7 LO .fin))
def fR:OT:=.br 1 Tp (.br 6 Te (.br 7 TN .fin))
def Zi:OT:=.br 4 PG (.br 6 PO (.br 7 Py .fin))
def eW:OT:=.br 2 Zi (.br 4 Tp (.br 6 S3 (.br 7 Ua .fin)))
def rH:OT:=.br 1 eW (.br 4 fR (.br 6 fG (.br 7 eU .fin)))
set_option maxHeartbeats 2000000 in
theorem S1(w:World)(f:Fq)(hv:Vl w f)(hG:EE w f) :
  Bo prog 54 #[] w (Bx (α:=Option Addr×Nat) (λx=>.slice x.1 Cc.length x.2) (λ_=>True) (λx=>[λw f=>Tl w f Cc x.1 x.2]) w f):=by
 refine Cg (X:=X0 w f) (H:=[]) (R:=[]) (B:=[]) (Fs:=[λw f=>EE w f]) (f:=f) func54 rfl rfl rfl (BS hv ⟨hG,tQ⟩ ⟨EE.mono,tQ⟩)<|Aa 7 [] (λ_=>Br rfl rfl (eC Bu rfl rfl) (λw f hM=>Bl w f hM.vl [105,110,116]) (λx=>trivial) ?_);rintro⟨⟩ -;refine Br rfl rfl (eC Bu rfl rfl) (λw f hM=>Bl w f hM.vl [102,108,111,97,116]) (λx=>trivial) ?_;rintro⟨⟩ -;refine Br rfl rfl (eC Bu rfl rfl) (λw f hM=>Bl w f hM.vl [115,116,114,105,110,103]) (λx=>trivial) ?_;rintro⟨⟩ -;refine Br rfl rfl (eC Bu rfl rfl) (λw f hM=>Bl w f hM.vl [98,111,111,108]) (λx=>trivial) ?_;rintro⟨⟩ -;refine Br rfl rfl (eC Bu rfl rfl) (λw f hM=>Bl w f hM.vl [117,110,105,116]) (λx=>trivial) ?_;rintro⟨⟩ -;refine Aa 14 [4,3,2,1,0] (λb1=>λb2=>λb3=>λb4=>λb5=>y<|y<|y<|y<|y<|λ_=>Br rfl rfl (eC GH rfl rfl) (λw f hM=>DA w f hM.vl 1) (λx=>trivial) ?_);rintro⟨⟩ -;refine Aa 5 [0] (λb6=>y<|λ_=>?_);refine Nv (α:=Nat×Nat×(Option Addr×Nat)×(Option Addr×Nat)) (λx=>True) (λx=>(E8 1 (pB b1) 2 (pB b2) 3 (pB b3) 4 (pB b4) 5 (pB b5) 6 (pB b6) 7 (pB x.1) 8 (pB x.2.1))) (λx=>X0 w f) (λx=>[⟨x.2.1,tC (T1.con CK (T1.var 1).one) x.2.2.2.1 x.2.2.2.2,76,true⟩,⟨x.1,tC (T1.con I6 (T1.var 1).one) x.2.2.1.1 x.2.2.1.2,76,true⟩,⟨b6,tC (.var 1) none 0,76,true⟩,⟨b5,tC (c0 bU) none 0,76,true⟩,⟨b4,tC (c0 bB) none 0,76,true⟩,⟨b3,tC (c0 bS) none 0,76,true⟩,⟨b2,tC (c0 bF) none 0,76,true⟩,⟨b1,tC (c0 bI) none 0,76,true⟩]) (λx=>[]) (λx=>[]) (λx=>[λw f=>Al w f (T1.var 1).one x.2.2.2.1 x.2.2.2.2,λw f=>Al w f (T1.var 1).one x.2.2.1.1 x.2.2.1.2,λw f=>EE w f]) ?_ ?_;refine Cv [0,1,2,3,4,5] Ak (.rd 0 (.rd 3 rH)) rfl kR<|A1 2 [0,0] (y<|y<|λ_=>KJ HH (KK b1 b2 b3 b4 b5 b6 [1,2,4,5,6,7]) (D2 b1 b2 b3 b4 b5 b6 [1,2,4,5,6,7]) (λ_=>[]) (f16 [1,2,4,5,6,7]) ?_ (λhS124567=>?_))
 ·
  rintro⟨b18,b21,b7,b8,⟨ra,rc⟩,⟨pa,pc⟩⟩;refine Af rfl ?_ Aj;refine Aa 2 [1] (y<|λ_=>Au [2,3,4,5,6,7] rfl<|Af rfl ?_ Aj);exact Aa 2 [0] (y<|λ_=>Au [2,3,4,5,6,7] rfl<|Bf<|HE (b7,b8,(ra,rc),(pa,pc)) tQ lE (λw f hM=>⟨f,hM⟩))
 refine KJ Lh (KK b1 b2 b3 b4 b5 b6 [1,2,4,5,7]) (D2 b1 b2 b3 b4 b5 b6 [1,2,4,5,7]) (λ_=>[]) (f16 [1,2,4,5,7]) ?_ (λhS12457=>?_)
 ·
  rintro⟨b18,b21,b7,b8,⟨ra,rc⟩,⟨pa,pc⟩⟩;refine Af rfl ?_ Aj;exact Aa 2 [] (λq=>λ_=>Au [2,3,4,5,6,7] rfl<|EF hS124567 (b18,b21,q,b8,(ra,rc),(pa,pc)) lE (λw f hM=>hM.perm (List.perm_middle (l₁:=[_]))))
 refine KJ KW (KK b1 b2 b3 b4 b5 b6 [1,2,4,5,6]) (D2 b1 b2 b3 b4 b5 b6 [1,2,4,5,6]) (λ_=>[]) (f16 [1,2,4,5,6]) ?_ (λhS12456=>?_)
 ·
  rintro⟨b18,b21,b7,b8,⟨ra,rc⟩,⟨pa,pc⟩⟩;refine Af rfl ?_ Aj;exact Aa 2 [] (λq=>λ_=>Au [2,3,4,5,6,7] rfl<|EF hS124567 (b18,b21,b7,q,(ra,rc),(pa,pc)) lE (λw f hM=>hM))
 refine KJ H9 (KK b1 b2 b3 b4 b5 b6 [1,2,4,6,7]) (D2 b1 b2 b3 b4 b5 b6 [1,2,4,6,7]) (λ_=>[]) (f16 [1,2,4,6,7]) ?_ (λhS12467=>?_)
 ·
  rintro⟨b18,b21,b7,b8,⟨ra,rc⟩,⟨pa,pc⟩⟩;refine Af rfl ?_ Aj;refine CJ 2 rfl rfl<|CP (λw f=>Al w f (T1.var 1).one (some ⟨b21,0,none⟩) 1) (λw f hM=>CL (l:=[(.var 1,none,0)]) ⟨Al.nil _ _ _ _,tQ⟩ hM.b0) Al.mono<|Br rfl rfl (eC Bu rfl rfl) (λw f hM=>C9 w f hM.vl CK (T1.var 1).one (some ⟨b21,0,none⟩) 1 dC hM.f0) (λ_=>⟨Al.mono,tQ⟩) ?_;rintro⟨qa,qc⟩ -;exact Aa 1 [] (λ_=>AW [2,3,4,5,6,7] EG rfl (λ_ h=>.tail _ h)<|EF hS124567 (b18,b21,b7,b8,(ra,rc),(qa,qc)) lE (λw f hM=>hM.less sR sR nE (mR [0,2,3])))
 refine KJ KH (KK b1 b2 b3 b4 b5 b6 [1,2,4,7]) (D2 b1 b2 b3 b4 b5 b6 [1,2,4,7]) (λ_=>[]) (f16 [1,2,4,7]) ?_ (λhS1247=>?_)
 ·
  rintro⟨b18,b21,b7,b8,⟨ra,rc⟩,⟨pa,pc⟩⟩;refine Af rfl ?_ ?_;refine CJ 1 rfl rfl<|CP (λw f=>Al w f (T1.var 1).one (some ⟨b21,0,none⟩) 1) (λw f hM=>CL (l:=[(.var 1,none,0)]) ⟨Al.nil _ _ _ _,tQ⟩ hM.b0) Al.mono<|Br rfl rfl (eC Bu rfl rfl) (λw f hM=>C9 w f hM.vl CK (T1.var 1).one (some ⟨b21,0,none⟩) 1 dC hM.f0) (λ_=>⟨Al.mono,tQ⟩) ?_;rintro⟨qa,qc⟩ -;exact Aa 1 [] (λ_=>AW [1,2,3,4,5,6] EG rfl (λ_ h=>.tail _ h)<|EF hS12457 (b18,b21,b7,b8,(ra,rc),(qa,qc)) lE (λw f hM=>hM.less sR sR nE (mR [0,2,3])));refine Af rfl ?_ Aj;exact Aa 2 [] (λq=>λ_=>Au [3,4,5,6,7,8] rfl<|EF hS12467 (b18,b21,q,b8,(ra,rc),(pa,pc)) lE (λw f hM=>hM.perm (List.perm_middle (l₁:=[_]))))
 refine KJ Ky (KK b1 b2 b3 b4 b5 b6 [1,2,6,7]) (D2 b1 b2 b3 b4 b5 b6 [1,2,6,7]) (λ_=>[]) (f16 [1,2,6,7]) ?_ (λhS1267=>?_)
 ·
  rintro⟨b18,b21,b7,b8,⟨ra,rc⟩,⟨pa,pc⟩⟩;refine Af rfl ?_ Aj;exact Aa 2 [] (λq=>λ_=>Au [3,4,5,6,7,8] rfl<|EF hS12467 (b18,q,b7,b8,(ra,rc),(pa,pc)) lE (λw f hM=>hM.perm (List.perm_middle (l₁:=[_,_]))))
 refine KJ Km (KK b1 b2 b3 b4 b5 b6 [1,2,4,6]) (D2 b1 b2 b3 b4 b5 b6 [1,2,4,6]) (λ_=>[]) (f16 [1,2,4,6]) ?_ (λhS1246=>?_)
 ·
  rintro⟨b18,b21,b7,b8,⟨ra,rc⟩,⟨pa,pc⟩⟩;refine Af rfl ?_ ?_;refine CJ 1 rfl rfl<|CP (λw f=>Al w f (T1.var 1).one (some ⟨b21,0,none⟩) 1) (λw f hM=>CL (l:=[(.var 1,none,0)]) ⟨Al.nil _ _ _ _,tQ⟩ hM.b0) Al.mono<|Br rfl rfl (eC Bu rfl rfl) (λw f hM=>C9 w f hM.vl CK (T1.var 1).one (some ⟨b21,0,none⟩) 1 dC hM.f0) (λ_=>⟨Al.mono,tQ⟩) ?_;rintro⟨qa,qc⟩ -;exact Aa 1 [] (λ_=>AW [1,2,3,4,5,6] EG rfl (λ_ h=>.tail _ h)<|EF hS12456 (b18,b21,b7,b8,(ra,rc),(qa,qc)) lE (λw f hM=>hM.less sR sR nE (mR [0,2,3])));refine Af rfl ?_ Aj;exact Aa 2 [] (λq=>λ_=>Au [3,4,5,6,7,8] rfl<|EF hS12467 (b18,b21,b7,q,(ra,rc),(pa,pc)) lE (λw f hM=>hM))
 refine KJ QO (KK b1 b2 b3 b4 b5 b6 [1,2,4,5]) (D2 b1 b2 b3 b4 b5 b6 [1,2,4,5]) (λ_=>[]) (f16 [1,2,4,5]) ?_ (λhS1245=>?_)
 ·
  rintro⟨b18,b21,b7,b8,⟨ra,rc⟩,⟨pa,pc⟩⟩;refine Af rfl ?_ ?_;exact Aa 2 [] (λq=>λ_=>Au [1,2,3,4,5,6] rfl<|EF hS12456 (b18,b21,q,b8,(ra,rc),(pa,pc)) lE (λw f hM=>hM));refine Af rfl ?_ Aj;exact Aa 2 [] (λq=>λ_=>Au [1,2,3,4,5,6] rfl<|EF hS12457 (b18,b21,b7,q,(ra,rc),(pa,pc)) lE (λw f hM=>hM))
 refine KJ Jd (KK b1 b2 b3 b4 b5 b6 [1,4,6,7]) (D2 b1 b2 b3 b4 b5 b6 [1,4,6,7]) (λ_=>[]) (f16 [1,4,6,7]) ?_ (λhS1467=>?_)
 ·
  rintro⟨b18,b21,b7,b8,⟨ra,rc⟩,⟨pa,pc⟩⟩;refine Af rfl ?_ Aj;refine CJ 3 rfl rfl<|CP (λw f=>Al w f (T1.var 1).one (some ⟨b18,0,none⟩) 1) (λw f hM=>CL (l:=[(.var 1,none,0)]) ⟨Al.nil _ _ _ _,tQ⟩ hM.b0) Al.mono<|Br rfl rfl (eC Bu rfl rfl) (λw f hM=>C9 w f hM.vl I6 (T1.var 1).one (some ⟨b18,0,none⟩) 1 dC hM.f0) (λ_=>⟨Al.mono,tQ⟩) ?_;rintro⟨qa,qc⟩ -;exact Aa 1 [] (λ_=>AW [3,4,5,6,7,8] EG rfl (λ_ h=>.tail _ h)<|EF hS12467 (b18,b21,b7,b8,(qa,qc),(pa,pc)) lE (λw f hM=>hM.less sR sR nE (mR [0,2])))
 refine KJ LR (KK b1 b2 b3 b4 b5 b6 [1,4,6]) (D2 b1 b2 b3 b4 b5 b6 [1,4,6]) (λ_=>[]) (f16 [1,4,6]) ?_ (λhS146=>?_)
 ·
  rintro⟨b18,b21,b7,b8,⟨ra,rc⟩,⟨pa,pc⟩⟩;refine Af rfl ?_ ?_;refine CJ 2 rfl rfl<|CP (λw f=>Al w f (T1.var 1).one (some ⟨b18,0,none⟩) 1) (λw f hM=>CL (l:=[(.var 1,none,0)]) ⟨Al.nil _ _ _ _,tQ⟩ hM.b0) Al.mono<|Br rfl rfl (eC Bu rfl rfl) (λw f hM=>C9 w f hM.vl I6 (T1.var 1).one (some ⟨b18,0,none⟩) 1 dC hM.f0) (λ_=>⟨Al.mono,tQ⟩) ?_;rintro⟨qa,qc⟩ -;exact Aa 1 [] (λ_=>AW [2,3,4,5,6,7] EG rfl (λ_ h=>.tail _ h)<|EF hS1246 (b18,b21,b7,b8,(qa,qc),(pa,pc)) lE (λw f hM=>hM.less sR sR nE (mR [0,2])));refine Af rfl ?_ Aj;exact Aa 2 [] (λq=>λ_=>Au [4,5,6,7,8,9] rfl<|EF hS1467 (b18,b21,b7,q,(ra,rc),(pa,pc)) lE (λw f hM=>hM))
 refine KJ LO (KK b1 b2 b3 b4 b5 b6 [1,4,7]) (D2 b1 b2 b3 b4 b5 b6 [1,4,7]) (λ_=>[]) (f16 [1,4,7]) ?_ (λhS147=>?_)
 ·
  rintro⟨b18,b21,b7,b8,⟨ra,rc⟩,⟨pa,pc⟩⟩;refine Af rfl ?_ ?_;refine CJ 2 rfl rfl<|CP (λw f=>Al w f (T1.var 1).one (some ⟨b18,0,none⟩) 1) (λw f hM=>CL (l:=[(.var 1,none,0)]) ⟨Al.nil _ _ _ _,tQ⟩ hM.b0) Al.mono<|Br rfl rfl (eC Bu rfl rfl) (λw f hM=>C9 w f hM.vl I6 (T1.var 1).one (some ⟨b18,0,none⟩) 1 dC hM.f0) (λ_=>⟨Al.mono,tQ⟩) ?_;rintro⟨qa,qc⟩ -;exact Aa 1 [] (λ_=>AW [2,3,4,5,6,7] EG rfl (λ_ h=>.tail _ h)<|EF hS1247 (b18,b21,b7,b8,(qa,qc),(pa,pc)) lE (λw f hM=>hM.less sR sR nE (mR [0,2])));refine Af rfl ?_ Aj;exact Aa 2 [] (λq=>λ_=>Au [4,5,6,7,8,9] rfl<|EF hS1467 (b18,b21,q,b8,(ra,rc),(pa,pc)) lE (λw f hM=>hM.perm (List.perm_middle (l₁:=[_]))))
 refine KJ Py (KK b1 b2 b3 b4 b5 b6 [1,2,7]) (D2 b1 b2 b3 b4 b5 b6 [1,2,7]) (λ_=>[]) (f16 [1,2,7]) ?_ (λhS127=>?_)
 ·
  rintro⟨b18,b21,b7,b8,⟨ra,rc⟩,⟨pa,pc⟩⟩;refine Af rfl ?_ ?_;exact Aa 2 [] (λq=>λ_=>Au [2,3,4,5,6,7] rfl<|EF hS1247 (b18,q,b7,b8,(ra,rc),(pa,pc)) lE (λw f hM=>hM.perm (List.perm_middle (l₁:=[_]))));refine Af rfl ?_ Aj;exact Aa 2 [] (λq=>λ_=>Au [2,3,4,5,6,7] rfl<|EF hS1267 (b18,b21,q,b8,(ra,rc),(pa,pc)) lE (λw f hM=>hM.perm (List.perm_middle (l₁:=[_]))))
 refine KJ LV (KK b1 b2 b3 b4 b5 b6 [1,6,7]) (D2 b1 b2 b3 b4 b5 b6 [1,6,7]) (λ_=>[]) (f16 [1,6,7]) ?_ (λhS167=>?_)
 ·
  rintro⟨b18,b21,b7,b8,⟨ra,rc⟩,⟨pa,pc⟩⟩;refine Af rfl ?_ ?_;refine CJ 2 rfl rfl<|CP (λw f=>Al w f (T1.var 1).one (some ⟨b18,0,none⟩) 1) (λw f hM=>CL (l:=[(.var 1,none,0)]) ⟨Al.nil _ _ _ _,tQ⟩ hM.b0) Al.mono<|Br rfl rfl (eC Bu rfl rfl) (λw f hM=>C9 w f hM.vl I6 (T1.var 1).one (some ⟨b18,0,none⟩) 1 dC hM.f0) (λ_=>⟨Al.mono,tQ⟩) ?_;rintro⟨qa,qc⟩ -;exact Aa 1 [] (λ_=>AW [2,3,4,5,6,7] EG rfl (λ_ h=>.tail _ h)<|EF hS1267 (b18,b21,b7,b8,(qa,qc),(pa,pc)) lE (λw f hM=>hM.less sR sR nE (mR [0,2])));refine Af rfl ?_ Aj;exact Aa 2 [] (λq=>λ_=>Au [4,5,6,7,8,9] rfl<|EF hS1467 (b18,q,b7,b8,(ra,rc),(pa,pc)) lE (λw f hM=>hM.perm (List.perm_middle (l₁:=[_,_]))))
 refine KJ PO (KK b1 b2 b3 b4 b5 b6 [1,2,6]) (D2 b1 b2 b3 b4 b5 b6 [1,2,6]) (λ_=>[]) (f16 [1,2,6]) ?_ (λhS126=>?_)
 ·
  rintro⟨b18,b21,b7,b8,⟨ra,rc⟩,⟨pa,pc⟩⟩;refine Af rfl ?_ ?_;exact Aa 2 [] (λq=>λ_=>Au [2,3,4,5,6,7] rfl<|EF hS1246 (b18,q,b7,b8,(ra,rc),(pa,pc)) lE (λw f hM=>hM.perm (List.perm_middle (l₁:=[_]))));refine Af rfl ?_ Aj;exact Aa 2 [] (λq=>λ_=>Au [2,3,4,5,6,7] rfl<|EF hS1267 (b18,b21,b7,q,(ra,rc),(pa,pc)) lE (λw f hM=>hM))
 refine KJ Ma (KK b1 b2 b3 b4 b5 b6 [4,6,7]) (D2 b1 b2 b3 b4 b5 b6 [4,6,7]) (λ_=>[]) (f16 [4,6,7]) ?_ (λhS467=>?_)
 ·
  rintro⟨b18,b21,b7,b8,⟨ra,rc⟩,⟨pa,pc⟩⟩;refine Af rfl ?_ Aj;exact Aa 2 [] (λq=>λ_=>Au [4,5,6,7,8,9] rfl<|EF hS1467 (q,b21,b7,b8,(ra,rc),(pa,pc)) lE (λw f hM=>hM.perm (List.perm_middle (l₁:=[_,_,_]))))
 refine KJ PG (KK b1 b2 b3 b4 b5 b6 [1,2,4]) (D2 b1 b2 b3 b4 b5 b6 [1,2,4]) (λ_=>[]) (f16 [1,2,4]) ?_ (λhS124=>?_)
 ·
  rintro⟨b18,b21,b7,b8,⟨ra,rc⟩,⟨pa,pc⟩⟩;refine Af rfl ?_ ?_;refine CJ 0 rfl rfl<|CP (λw f=>Al w f (T1.var 1).one (some ⟨b21,0,none⟩) 1) (λw f hM=>CL (l:=[(.var 1,none,0)]) ⟨Al.nil _ _ _ _,tQ⟩ hM.b0) Al.mono<|Br rfl rfl (eC Bu rfl rfl) (λw f hM=>C9 w f hM.vl CK (T1.var 1).one (some ⟨b21,0,none⟩) 1 dC hM.f0) (λ_=>⟨Al.mono,tQ⟩) ?_;rintro⟨qa,qc⟩ -;exact Aa 1 [] (λ_=>AW [0,1,2,3,4,5] EG rfl (λ_ h=>.tail _ h)<|EF hS1245 (b18,b21,b7,b8,(ra,rc),(qa,qc)) lE (λw f hM=>hM.less sR sR nE (mR [0,2,3])));refine Af rfl ?_ ?_;exact Aa 2 [] (λq=>λ_=>Au [2,3,4,5,6,7] rfl<|EF hS1246 (b18,b21,q,b8,(ra,rc),(pa,pc)) lE (λw f hM=>hM));refine Af rfl ?_ Aj;exact Aa 2 [] (λq=>λ_=>Au [2,3,4,5,6,7] rfl<|EF hS1247 (b18,b21,b7,q,(ra,rc),(pa,pc)) lE (λw f hM=>hM))
 refine KJ Tp (KK b1 b2 b3 b4 b5 b6 [1,4]) (D2 b1 b2 b3 b4 b5 b6 [1,4]) (λ_=>[]) (f16 [1,4]) ?_ (λhS14=>?_)
 ·
  rintro⟨b18,b21,b7,b8,⟨ra,rc⟩,⟨pa,pc⟩⟩;refine Af rfl ?_ ?_;refine CJ 1 rfl rfl<|CP (λw f=>Al w f (T1.var 1).one (some ⟨b18,0,none⟩) 1) (λw f hM=>CL (l:=[(.var 1,none,0)]) ⟨Al.nil _ _ _ _,tQ⟩ hM.b0) Al.mono<|Br rfl rfl (eC Bu rfl rfl) (λw f hM=>C9 w f hM.vl I6 (T1.var 1).one (some ⟨b18,0,none⟩) 1 dC hM.f0) (λ_=>⟨Al.mono,tQ⟩) ?_;rintro⟨qa,qc⟩ -;exact Aa 1 [] (λ_=>AW [1,2,3,4,5,6] EG rfl (λ_ h=>.tail _ h)<|EF hS124 (b18,b21,b7,b8,(qa,qc),(pa,pc)) lE (λw f hM=>hM.less sR sR nE (mR [0,2])));refine Af rfl ?_ ?_;exact Aa 2 [] (λq=>λ_=>Au [3,4,5,6,7,8] rfl<|EF hS146 (b18,b21,q,b8,(ra,rc),(pa,pc)) lE (λw f hM=>hM));refine Af rfl ?_ Aj;exact Aa 2 [] (λq=>λ_=>Au [3,4,5,6,7,8] rfl<|EF hS147 (b18,b21,b7,q,(ra,rc),(pa,pc)) lE (λw f hM=>hM))
 refine KJ Te (KK b1 b2 b3 b4 b5 b6 [4,6]) (D2 b1 b2 b3 b4 b5 b6 [4,6]) (λ_=>[]) (f16 [4,6]) ?_ (λhS46=>?_)
 ·
  rintro⟨b18,b21,b7,b8,⟨ra,rc⟩,⟨pa,pc⟩⟩;refine Af rfl ?_ ?_;exact Aa 2 [] (λq=>λ_=>Au [3,4,5,6,7,8] rfl<|EF hS146 (q,b21,b7,b8,(ra,rc),(pa,pc)) lE (λw f hM=>hM.perm (List.perm_middle (l₁:=[_,_]))));refine Af rfl ?_ Aj;exact Aa 2 [] (λq=>λ_=>Au [3,4,5,6,7,8] rfl<|EF hS467 (b18,b21,b7,q,(ra,rc),(pa,pc)) lE (λw f hM=>hM))
 refine KJ Ua (KK b1 b2 b3 b4 b5 b6 [1,7]) (D2 b1 b2 b3 b4 b5 b6 [1,7]) (λ_=>[]) (f16 [1,7]) ?_ (λhS17=>?_)
 ·
  rintro⟨b18,b21,b7,b8,⟨ra,rc⟩,⟨pa,pc⟩⟩;refine Af rfl ?_ ?_;refine CJ 1 rfl rfl<|CP (λw f=>Al w f (T1.var 1).one (some ⟨b18,0,none⟩) 1) (λw f hM=>CL (l:=[(.var 1,none,0)]) ⟨Al.nil _ _ _ _,tQ⟩ hM.b0) Al.mono<|Br rfl rfl (eC Bu rfl rfl) (λw f hM=>C9 w f hM.vl I6 (T1.var 1).one (some ⟨b18,0,none⟩) 1 dC hM.f0) (λ_=>⟨Al.mono,tQ⟩) ?_;rintro⟨qa,qc⟩ -;exact Aa 1 [] (λ_=>AW [1,2,3,4,5,6] EG rfl (λ_ h=>.tail _ h)<|EF hS127 (b18,b21,b7,b8,(qa,qc),(pa,pc)) lE (λw f hM=>hM.less sR sR nE (mR [0,2])));refine Af rfl ?_ ?_;exact Aa 2 [] (λq=>λ_=>Au [3,4,5,6,7,8] rfl<|EF hS147 (b18,q,b7,b8,(ra,rc),(pa,pc)) lE (λw f hM=>hM.perm (List.perm_middle (l₁:=[_]))));refine Af rfl ?_ Aj;exact Aa 2 [] (λq=>λ_=>Au [3,4,5,6,7,8] rfl<|EF hS167 (b18,b21,q,b8,(ra,rc),(pa,pc)) lE (λw f hM=>hM.perm (List.perm_middle (l₁:=[_]))))
 refine KJ S3 (KK b1 b2 b3 b4 b5 b6 [1,6]) (D2 b1 b2 b3 b4 b5 b6 [1,6]) (λ_=>[]) (f16 [1,6]) ?_ (λhS16=>?_)
 ·
  rintro⟨b18,b21,b7,b8,⟨ra,rc⟩,⟨pa,pc⟩⟩;refine Af rfl ?_ ?_;refine CJ 1 rfl rfl<|CP (λw f=>Al w f (T1.var 1).one (some ⟨b18,0,none⟩) 1) (λw f hM=>CL (l:=[(.var 1,none,0)]) ⟨Al.nil _ _ _ _,tQ⟩ hM.b0) Al.mono<|Br rfl rfl (eC Bu rfl rfl) (λw f hM=>C9 w f hM.vl I6 (T1.var 1).one (some ⟨b18,0,none⟩) 1 dC hM.f0) (λ_=>⟨Al.mono,tQ⟩) ?_;rintro⟨qa,qc⟩ -;exact Aa 1 [] (λ_=>AW [1,2,3,4,5,6] EG rfl (λ_ h=>.tail _ h)<|EF hS126 (b18,b21,b7,b8,(qa,qc),(pa,pc)) lE (λw f hM=>hM.less sR sR nE (mR [0,2])));refine Af rfl ?_ ?_;exact Aa 2 [] (λq=>λ_=>Au [3,4,5,6,7,8] rfl<|EF hS146 (b18,q,b7,b8,(ra,rc),(pa,pc)) lE (λw f hM=>hM.perm (List.perm_middle (l₁:=[_]))));refine Af rfl ?_ Aj;exact Aa 2 [] (λq=>λ_=>Au [3,4,5,6,7,8] rfl<|EF hS167 (b18,b21,b7,q,(ra,rc),(pa,pc)) lE (λw f hM=>hM))
 refine KJ TN (KK b1 b2 b3 b4 b5 b6 [4,7]) (D2 b1 b2 b3 b4 b5 b6 [4,7]) (λ_=>[]) (f16 [4,7]) ?_ (λhS47=>?_)
 ·
  rintro⟨b18,b21,b7,b8,⟨ra,rc⟩,⟨pa,pc⟩⟩;refine Af rfl ?_ ?_;exact Aa 2 [] (λq=>λ_=>Au [3,4,5,6,7,8] rfl<|EF hS147 (q,b21,b7,b8,(ra,rc),(pa,pc)) lE (λw f hM=>hM.perm (List.perm_middle (l₁:=[_,_]))));refine Af rfl ?_ Aj;exact Aa 2 [] (λq=>λ_=>Au [3,4,5,6,7,8] rfl<|EF hS467 (b18,b21,q,b8,(ra,rc),(pa,pc)) lE (λw f hM=>hM.perm (List.perm_middle (l₁:=[_]))))
 refine KJ TU (KK b1 b2 b3 b4 b5 b6 [6,7]) (D2 b1 b2 b3 b4 b5 b6 [6,7]) (λ_=>[]) (f16 [6,7]) ?_ (λhS67=>?_)
 ·
  rintro⟨b18,b21,b7,b8,⟨ra,rc⟩,⟨pa,pc⟩⟩;refine Af rfl ?_ ?_;exact Aa 2 [] (λq=>λ_=>Au [3,4,5,6,7,8] rfl<|EF hS167 (q,b21,b7,b8,(ra,rc),(pa,pc)) lE (λw f hM=>hM.perm (List.perm_middle (l₁:=[_,_]))));refine Af rfl ?_ Aj;exact Aa 2 [] (λq=>λ_=>Au [3,4,5,6,7,8] rfl<|EF hS467 (b18,q,b7,b8,(ra,rc),(pa,pc)) lE (λw f hM=>hM.perm (List.perm_middle (l₁:=[_,_]))))
 refine KJ Zi (KK b1 b2 b3 b4 b5 b6 [1,2]) (D2 b1 b2 b3 b4 b5 b6 [1,2]) (λ_=>[]) (f16 [1,2]) ?_ (λhS12=>?_)
 ·
  rintro⟨b18,b21,b7,b8,⟨ra,rc⟩,⟨pa,pc⟩⟩;refine Af rfl ?_ ?_;exact Aa 2 [] (λq=>λ_=>Au [1,2,3,4,5,6] rfl<|EF hS124 (b18,q,b7,b8,(ra,rc),(pa,pc)) lE (λw f hM=>hM));refine Af rfl ?_ ?_;exact Aa 2 [] (λq=>λ_=>Au [1,2,3,4,5,6] rfl<|EF hS126 (b18,b21,q,b8,(ra,rc),(pa,pc)) lE (λw f hM=>hM));refine Af rfl ?_ Aj;exact Aa 2 [] (λq=>λ_=>Au [1,2,3,4,5,6] rfl<|EF hS127 (b18,b21,b7,q,(ra,rc),(pa,pc)) lE (λw f hM=>hM))
 refine KJ eW (KK b1 b2 b3 b4 b5 b6 [1]) (D2 b1 b2 b3 b4 b5 b6 [1]) (λ_=>[]) (f16 [1]) ?_ (λhS1=>?_)
 ·
  rintro⟨b18,b21,b7,b8,⟨ra,rc⟩,⟨pa,pc⟩⟩;refine Af rfl ?_ ?_;refine CJ 0 rfl rfl<|CP (λw f=>Al w f (T1.var 1).one (some ⟨b18,0,none⟩) 1) (λw f hM=>CL (l:=[(.var 1,none,0)]) ⟨Al.nil _ _ _ _,tQ⟩ hM.b0) Al.mono<|Br rfl rfl (eC Bu rfl rfl) (λw f hM=>C9 w f hM.vl I6 (T1.var 1).one (some ⟨b18,0,none⟩) 1 dC hM.f0) (λ_=>⟨Al.mono,tQ⟩) ?_;rintro⟨qa,qc⟩ -;exact Aa 1 [] (λ_=>AW [0,1,2,3,4,5] EG rfl (λ_ h=>.tail _ h)<|EF hS12 (b18,b21,b7,b8,(qa,qc),(pa,pc)) lE (λw f hM=>hM.less sR sR nE (mR [0,2])));refine Af rfl ?_ ?_;exact Aa 2 [] (λq=>λ_=>Au [2,3,4,5,6,7] rfl<|EF hS14 (b18,q,b7,b8,(ra,rc),(pa,pc)) lE (λw f hM=>hM));refine Af rfl ?_ ?_;exact Aa 2 [] (λq=>λ_=>Au [2,3,4,5,6,7] rfl<|EF hS16 (b18,b21,q,b8,(ra,rc),(pa,pc)) lE (λw f hM=>hM));refine Af rfl ?_ Aj;exact Aa 2 [] (λq=>λ_=>Au [2,3,4,5,6,7] rfl<|EF hS17 (b18,b21,b7,q,(ra,rc),(pa,pc)) lE (λw f hM=>hM))
 refine KJ fR (KK b1 b2 b3 b4 b5 b6 [4]) (D2 b1 b2 b3 b4 b5 b6 [4]) (λ_=>[]) (f16 [4]) ?_ (λhS4=>?_)
 ·
  rintro⟨b18,b21,b7,b8,⟨ra,rc⟩,⟨pa,pc⟩⟩;refine Af rfl ?_ ?_;exact Aa 2 [] (λq=>λ_=>Au [2,3,4,5,6,7] rfl<|EF hS14 (q,b21,b7,b8,(ra,rc),(pa,pc)) lE (λw f hM=>hM.perm (List.perm_middle (l₁:=[_]))));refine Af rfl ?_ ?_;exact Aa 2 [] (λq=>λ_=>Au [2,3,4,5,6,7] rfl<|EF hS46 (b18,b21,q,b8,(ra,rc),(pa,pc)) lE (λw f hM=>hM));refine Af rfl ?_ Aj;exact Aa 2 [] (λq=>λ_=>Au [2,3,4,5,6,7] rfl<|EF hS47 (b18,b21,b7,q,(ra,rc),(pa,pc)) lE (λw f hM=>hM))
 refine KJ eU (KK b1 b2 b3 b4 b5 b6 [7]) (D2 b1 b2 b3 b4 b5 b6 [7]) (λ_=>[]) (f16 [7]) ?_ (λhS7=>?_)
 ·
  rintro⟨b18,b21,b7,b8,⟨ra,rc⟩,⟨pa,pc⟩⟩;refine Af rfl ?_ ?_;exact Aa 2 [] (λq=>λ_=>Au [2,3,4,5,6,7] rfl<|EF hS17 (q,b21,b7,b8,(ra,rc),(pa,pc)) lE (λw f hM=>hM.perm (List.perm_middle (l₁:=[_]))));refine Af rfl ?_ ?_;exact Aa 2 [] (λq=>λ_=>Au [2,3,4,5,6,7] rfl<|EF hS47 (b18,q,b7,b8,(ra,rc),(pa,pc)) lE (λw f hM=>hM.perm (List.perm_middle (l₁:=[_]))));refine Af rfl ?_ Aj;exact Aa 2 [] (λq=>λ_=>Au [2,3,4,5,6,7] rfl<|EF hS67 (b18,b21,q,b8,(ra,rc),(pa,pc)) lE (λw f hM=>hM.perm (List.perm_middle (l₁:=[_]))))
 refine KJ fG (KK b1 b2 b3 b4 b5 b6 [6]) (D2 b1 b2 b3 b4 b5 b6 [6]) (λ_=>[]) (f16 [6]) ?_ (λhS6=>?_)
 ·
  rintro⟨b18,b21,b7,b8,⟨ra,rc⟩,⟨pa,pc⟩⟩;refine Af rfl ?_ ?_;exact Aa 2 [] (λq=>λ_=>Au [2,3,4,5,6,7] rfl<|EF hS16 (q,b21,b7,b8,(ra,rc),(pa,pc)) lE (λw f hM=>hM.perm (List.perm_middle (l₁:=[_]))));refine Af rfl ?_ ?_;exact Aa 2 [] (λq=>λ_=>Au [2,3,4,5,6,7] rfl<|EF hS46 (b18,q,b7,b8,(ra,rc),(pa,pc)) lE (λw f hM=>hM.perm (List.perm_middle (l₁:=[_]))));refine Af rfl ?_ Aj;exact Aa 2 [] (λq=>λ_=>Au [2,3,4,5,6,7] rfl<|EF hS67 (b18,b21,b7,q,(ra,rc),(pa,pc)) lE (λw f hM=>hM))
 refine KJ rH (KK b1 b2 b3 b4 b5 b6 []) (D2 b1 b2 b3 b4 b5 b6 []) (λ_=>[]) (f16 []) ?_ (λhS=>?_)
 ·
  rintro⟨b18,b21,b7,b8,⟨ra,rc⟩,⟨pa,pc⟩⟩;refine Af rfl ?_ ?_;exact Aa 2 [] (λq=>λ_=>Au [1,2,3,4,5,6] rfl<|EF hS1 (q,b21,b7,b8,(ra,rc),(pa,pc)) lE (λw f hM=>hM));refine Af rfl ?_ ?_;exact Aa 2 [] (λq=>λ_=>Au [1,2,3,4,5,6] rfl<|EF hS4 (b18,q,b7,b8,(ra,rc),(pa,pc)) lE (λw f hM=>hM));refine Af rfl ?_ ?_;exact Aa 2 [] (λq=>λ_=>Au [1,2,3,4,5,6] rfl<|EF hS6 (b18,b21,q,b8,(ra,rc),(pa,pc)) lE (λw f hM=>hM));refine Af rfl ?_ Aj;exact Aa 2 [] (λq=>λ_=>Au [1,2,3,4,5,6] rfl<|EF hS7 (b18,b21,b7,q,(ra,rc),(pa,pc)) lE (λw f hM=>hM))
 exact EF hS (0,0,0,0,(none,0),(none,0)) lE (λw f hM=>hM);rintro⟨b7,b8,⟨ra,rc⟩,⟨pa,pc⟩⟩ -;dsimp only;refine Aa 8 [] (λb31=>λ_=>D6 rfl rfl (λw f hM=>Ni rfl)<|Aa 4 [] (λ_=>oQ 0 rfl rfl<|wC (Nx b31 none) (D7 121 124 b31 (.slice none 0 0) none 0 0 []) (λb h=>h.elim .inr λh=>by cases h) (λw f h=>⟨h.2,⟨rfl,.inl ⟨rfl,rfl,rfl⟩⟩,λh=>by cases h⟩) D7.stab<|CP (λw f=>CG w f [] []) (λw f hM=>rfl) CG.mono<|Aa 6 [7,7,7] (y<|y<|y<|λb32=>λ_=>G8 0 5 [qI,qI,qI] rfl rfl rfl rfl rfl rfl (λw f _ _ hM=>⟨hM.f3,⟨qN,⟨qN,⟨qN,tQ⟩⟩⟩⟩) ⟨kI,⟨kI,⟨kI,tQ⟩⟩⟩ λa1 c1 xs1=>Aa 8 [7,7] (y<|y<|λb33=>λ_=>G8 0 6 [qI,qI] rfl rfl rfl rfl rfl rfl (λw f _ _ hM=>⟨hM.f3,⟨qN,⟨qN,tQ⟩⟩⟩) ⟨kI,⟨kI,tQ⟩⟩ λa2 c2 xs2=>?_))));refine Aa 9 [7,7,4] (y<|y<|y<|λb34=>λ_=>G8 0 9 [qI,qI,qB] rfl rfl rfl rfl rfl rfl (λw f _ _ hM=>⟨hM.f3,⟨qN,⟨qN,⟨qN,tQ⟩⟩⟩⟩) ⟨kI,⟨kI,⟨kB,tQ⟩⟩⟩ λa3 c3 xs3=>Aa 9 [6,6,6] (y<|y<|y<|λb35=>λ_=>G8 0 13 [qF,qF,qF] rfl rfl rfl rfl rfl rfl (λw f _ _ hM=>⟨hM.f3,⟨qN,⟨qN,⟨qN,tQ⟩⟩⟩⟩) ⟨kF,⟨kF,⟨kF,tQ⟩⟩⟩ λa4 c4 xs4=>Aa 8 [6,6] (y<|y<|λb36=>λ_=>G8 0 15 [qF,qF] rfl rfl rfl rfl rfl rfl (λw f _ _ hM=>⟨hM.f3,⟨qN,⟨qN,tQ⟩⟩⟩) ⟨kF,⟨kF,tQ⟩⟩ λa5 c5 xs5=>Aa 9 [6,6,4] (y<|y<|y<|λb37=>λ_=>G8 0 18 [qF,qF,qB] rfl rfl rfl rfl rfl rfl (λw f _ _ hM=>⟨hM.f3,⟨qN,⟨qN,⟨qN,tQ⟩⟩⟩⟩) ⟨kF,⟨kF,⟨kB,tQ⟩⟩⟩ λa6 c6 xs6=>Aa 8 [7,6] (y<|y<|λb38=>λ_=>G8 0 19 [qI,qF] rfl rfl rfl rfl rfl rfl (λw f _ _ hM=>⟨hM.f3,⟨qN,⟨qN,tQ⟩⟩⟩) ⟨kI,⟨kF,tQ⟩⟩ λa7 c7 xs7=>?_)))));refine Aa 8 [6,7] (y<|y<|λb39=>λ_=>G8 0 20 [qF,qI] rfl rfl rfl rfl rfl rfl (λw f _ _ hM=>⟨hM.f3,⟨qN,⟨qN,tQ⟩⟩⟩) ⟨kF,⟨kI,tQ⟩⟩ λa8 c8 xs8=>Aa 8 [6,5] (y<|y<|λb40=>λ_=>G8 0 21 [qF,qS] rfl rfl rfl rfl rfl rfl (λw f _ _ hM=>⟨hM.f3,⟨qN,⟨qN,tQ⟩⟩⟩) ⟨kF,⟨kS,tQ⟩⟩ λa9 c9 xs9=>Aa 7 [6] (y<|λb41=>λ_=>G8 0 23 [qF] rfl rfl rfl rfl rfl rfl (λw f _ _ hM=>⟨hM.f3,⟨qN,tQ⟩⟩) ⟨kF,tQ⟩ λa10 c10 xs10=>Aa 9 [5,5,5] (y<|y<|y<|λb42=>λ_=>G8 0 24 [qS,qS,qS] rfl rfl rfl rfl rfl rfl (λw f _ _ hM=>⟨hM.f3,⟨qN,⟨qN,⟨qN,tQ⟩⟩⟩⟩) ⟨kS,⟨kS,⟨kS,tQ⟩⟩⟩ λa11 c11 xs11=>Aa 8 [5,7] (y<|y<|λb43=>λ_=>G8 0 27 [qS,qI] rfl rfl rfl rfl rfl rfl (λw f _ _ hM=>⟨hM.f3,⟨qN,⟨qN,tQ⟩⟩⟩) ⟨kS,⟨kI,tQ⟩⟩ λa12 c12 xs12=>?_)))))
 refine Aa 10 [5,7,7,5] (y<|y<|y<|y<|λb44=>λ_=>G8 0 28 [qS,qI,qI,qS] rfl rfl rfl rfl rfl rfl (λw f _ _ hM=>⟨hM.f3,⟨qN,⟨qN,⟨qN,⟨qN,tQ⟩⟩⟩⟩⟩) ⟨kS,⟨kI,⟨kI,⟨kS,tQ⟩⟩⟩⟩ λa13 c13 xs13=>Aa 9 [5,5,4] (y<|y<|y<|λb45=>λ_=>G8 0 30 [qS,qS,qB] rfl rfl rfl rfl rfl rfl (λw f _ _ hM=>⟨hM.f3,⟨qN,⟨qN,⟨qN,tQ⟩⟩⟩⟩) ⟨kS,⟨kS,⟨kB,tQ⟩⟩⟩ λa14 c14 xs14=>Aa 8 [7,5] (y<|y<|λb46=>λ_=>G8 0 32 [qI,qS] rfl rfl rfl rfl rfl rfl (λw f _ _ hM=>⟨hM.f3,⟨qN,⟨qN,tQ⟩⟩⟩) ⟨kI,⟨kS,tQ⟩⟩ λa15 c15 xs15=>Aa 8 [5,3] (y<|y<|λb47=>λ_=>G8 0 33 [qS,qU] rfl rfl rfl rfl rfl rfl (λw f _ _ hM=>⟨hM.f3,⟨qN,⟨qN,tQ⟩⟩⟩) ⟨kS,⟨kU,tQ⟩⟩ λa16 c16 xs16=>Aa 8 [3,5] (y<|y<|λb48=>λ_=>G8 0 34 [qU,qS] rfl rfl rfl rfl rfl rfl (λw f _ _ hM=>⟨hM.f3,⟨qN,⟨qN,tQ⟩⟩⟩) ⟨kU,⟨kS,tQ⟩⟩ λa17 c17 xs17=>?_)))));refine Aa 8 [2,1] (y<|y<|λb49=>λ_=>G8 0 35 [qV,(qR ra rc)] rfl rfl rfl rfl rfl rfl (λw f _ _ hM=>⟨hM.f3,⟨qN,⟨hM.f2,tQ⟩⟩⟩) ⟨kV,⟨(Dc dC dC tQ),tQ⟩⟩ λa18 c18 xs18=>Aa 8 [1,2] (y<|y<|λb50=>λ_=>G8 0 36 [(qR ra rc),qV] rfl rfl rfl rfl rfl rfl (λw f _ _ hM=>⟨hM.f3,⟨hM.f2,⟨qN,tQ⟩⟩⟩) ⟨(Dc dC dC tQ),⟨kV,tQ⟩⟩ λa19 c19 xs19=>Aa 9 [1,2,3] (y<|y<|y<|λb51=>λ_=>G8 0 37 [(qR ra rc),qV,qU] rfl rfl rfl rfl rfl rfl (λw f _ _ hM=>⟨hM.f3,⟨hM.f2,⟨qN,⟨qN,tQ⟩⟩⟩⟩) ⟨(Dc dC dC tQ),⟨kV,⟨kU,tQ⟩⟩⟩ λa20 c20 xs20=>Aa 8 [2,0] (y<|y<|λb52=>λ_=>G8 0 38 [qV,(qP pa pc)] rfl rfl rfl rfl rfl rfl (λw f _ _ hM=>⟨hM.f3,⟨qN,⟨hM.f1,tQ⟩⟩⟩) ⟨kV,⟨(Dc dC dC tQ),tQ⟩⟩ λa21 c21 xs21=>Aa 8 [0,2] (y<|y<|λb53=>λ_=>G8 0 39 [(qP pa pc),qV] rfl rfl rfl rfl rfl rfl (λw f _ _ hM=>⟨hM.f3,⟨hM.f1,⟨qN,tQ⟩⟩⟩) ⟨(Dc dC dC tQ),⟨kV,tQ⟩⟩ λa22 c22 xs22=>?_)))));exact Aa 9 [0,2,3] (y<|y<|y<|λb54=>λ_=>G8 0 40 [(qP pa pc),qV,qU] rfl rfl rfl rfl rfl rfl (λw f _ _ hM=>⟨hM.f3,⟨hM.f1,⟨qN,⟨qN,tQ⟩⟩⟩⟩) ⟨(Dc dC dC tQ),⟨kV,⟨kU,tQ⟩⟩⟩ λa23 c23 xs23=>Aa 4 [] (λ_=>D6 rfl rfl (λw f hM=>Ai rfl JF hM.res.blk rfl)<|Aa 4 [] (λ_=>AL (C3 rfl rfl) (λw f hM=>by obtain⟨f2,h1,h2⟩:=hM.res.fin (l:=Cc) hM.exm (λb hb=>(hM.mi b (.inr hb)).2.2.elim id λh=>h.elim) hM.f0 rfl dC;exact⟨(a23,c23),f2,rfl,tQ,h1,⟨h2,tQ⟩⟩))))
def Pd(p:QI):Bd:=⟨p.1,Cp p.2.2 [1] (T1.var (0-1)).one,[0-1]⟩
def Gz(i:Nat):Bb:=((Cc.take i).map Pd).reverse
variable {nu:Int}{i:Nat}{dt:lU}
theorem WD{p:QI}(h:Cc[i]?=some p):Gz (i+1)=Pd p::Gz i:=by
 unfold Gz;rw[BA h,List.map_append,List.reverse_append];rfl
theorem QU:Gz Cc.length=Pq:=kR
theorem NK:∀p,p∈Cc→p.2.2.bnd:=by
 intro p hp;simp only[Cc,List.mem_cons,List.not_mem_nil,or_false] at hp;have h1:∀{l:List (T1×Option Addr×Nat)},Z4 l→(Hj (Ss l)).bnd:=λh=>UY (PW h);have hv:=Bw 1;have h0:∀{t:lU},t.length≤1000000→(c0 t).bnd:=λh=>CF h;have hr:(T1.con I6 (T1.var 1).one).bnd:=Dc dC dC tQ;have hp2:(T1.con CK (T1.var 1).one).bnd:=Dc dC dC tQ;have bi:=h0 (t:=bI) dC;have bf:=h0 (t:=bF) dC;have bs:=h0 (t:=bS) dC;have bb:=h0 (t:=bB) dC;have bu:=h0 (t:=bU) dC
 repeat' (rcases hp with rfl|hp)
 all_goals first|(subst hp)|skip
 all_goals (refine h1 ?_;simp only[Z4,and_true];simp[*])
theorem Sq{nm:lU}{ar:Nat}(h:Hp[i]?=some (nm,dt,nu,ar)):ar≤1:=by
 have:∀p∈Hp,p.2.2.2≤1:=dC;exact this _ (List.mem_of_getElem? h)
theorem R7{nm:lU}{ar:Nat}(h:Hp[i]?=some (nm,dt,nu,ar)):dt.length≤1000000:=by
 have:∀p∈Hp,p.2.1.length≤1000000:=dC;exact this _ (List.mem_of_getElem? h)
theorem uJ:Dy (⟨[],0,WM 0,[],[],0⟩:CS):=⟨tQ,λ_ _ h=>(by cases h),tQ,tQ,tQ,Int.le_refl _⟩
set_option maxHeartbeats 2000000 in
theorem Tx(w:World)(f:Fq)(hv:Vl w f)(hG:EE w f) :
  Bo prog 22 #[] w (JV (α:=Ad×Option Addr) (λx=>.tuple #[pB x.1.cb,.pointer x.2]) (λx=>x.1.ok) (λ_=>False) (λx=>Bz x.1) (λx=>As 84 163 x.1 aG) (λx=>[λw f=>AF w f Pq x.2]) w f):=by
 refine Cg (X:=X0 w f) (H:=[]) (R:=[]) (B:=[]) (Fs:=[λw f=>EE w f]) (f:=f) func22 rfl rfl rfl (BS hv ⟨hG,tQ⟩ ⟨EE.mono,tQ⟩)<|Aa 8 [] (λ_=>S5 (XX:=λ_ _=>False) rfl rfl (eC kN rfl rfl) (λw f hM=>(XI w f hM.vl).retP) (λ_=>BB.stab (.inl rfl) (.inr rfl)) (λ_=>trivial) (λ_ _ _ _ _ h=>h.elim) ?_);rintro⟨sb,mb⟩ hsm;dsimp only at hsm ⊢;refine ZP (K:=BN) rfl rfl λkm hkm=>ZP (K:=BN) rfl rfl λdm hdm=>ZP (K:=BN) rfl rfl λrm hrm=>Aa 7 [] (λb1=>λ_=>Ig (λw f hM=>(hM.own b1 (.head _)).2.2) λhcb=>oQ 0 rfl rfl ?_);obtain⟨A,rfl,rfl,rfl,rfl,rfl,rfl⟩:∃A:Ad,A.cb=b1∧A.sb=sb∧A.mb=mb∧A.km=km∧A.dm=dm∧A.rm=rm:=⟨⟨b1,sb,mb,km,dm,rm⟩,rfl,rfl,rfl,rfl,rfl,rfl⟩;have hA:A.ok:=⟨λe=>hcb (.inl (.inl (.inl (.inl e)))),⟨λe=>hcb (.inl (.inl (.inl (.inr e)))),λe=>hcb (.inl (.inl (.inr e))),λe=>hcb (.inl (.inr e)),λe=>hcb (.inr e)⟩,⟨hsm,λe=>hkm (.inl e.symm),λe=>hdm (.inl (.inl e.symm)),λe=>hrm (.inl (.inl (.inl e.symm)))⟩,⟨λe=>hkm (.inr e.symm),λe=>hdm (.inl (.inr e.symm)),λe=>hrm (.inl (.inl (.inr e.symm))),λe=>hdm (.inr e.symm),λe=>hrm (.inl (.inr e.symm)),λe=>hrm (.inr e.symm)⟩⟩;refine wC (Bz A) (As 84 163 A (⟨[],0,WM 0,[],[],0⟩:CS)) (λb h=>by rcases h with h|h|h|h|h|h;exact .inr h;exact .inl (.inl (.inl (.inl (.inl h))));exact .inl (.inl (.inl (.inl (.inr h))));exact .inl (.inl (.inl (.inr h)));exact .inl (.inl (.inr h));exact .inl (.inr h)) (λw f h=>⟨h.2,⟨0,h.1.1.1.1⟩,⟨[],h.1.1.1.2,rfl⟩,h.1.1.2,h.1.2⟩) As.stab<|Aa 1 [] (λ_=>Br rfl rfl (eC kW rfl rfl) (λw f hM=>TO w f hM.vl) (λx=>⟨λ_ _ _ _ h hF=>Cs.mono h hF,tQ⟩) ?_);rintro kb -;refine Aa 5 [] (λ_=>?_);refine EZ (α:=Nat) (λi=>8-i) (λi=>i≤8∧Dy (⟨[],0,WM i,[],[],0⟩:CS)) (λi=>(E4 2 (pB A.cb) 15 (.slice (some ⟨kb,0,none⟩) 8 8) 16 (iV ((8:Nat):Int)) 17 (iV (i:Int)))) (λi=>⟨λ_=>False,Bz A,As 84 163 A (⟨[],0,WM i,[],[],0⟩:CS),w,f⟩) (λi=>[]) (λi=>[]) (λi=>[]) (λi=>[λw f=>Cs w f kb 0 PH,λw f=>EE w f]) (0) ⟨Nat.zero_le _,uJ⟩ lE (λw f hM=>hM.less sR sR nE (mR [0,1])) ?_;rintro i ⟨hi,hwi⟩;refine Aa 6 [] (λ_=>AJ 18 rfl rfl (λh1=>?_) (λh1=>?_));refine Aa 6 [] (λ_=>?_);have hil:i<8:=by have:=of_decide_eq_true h1;omega
 obtain⟨⟨nm,dt,nu,ar⟩,hx⟩:∃v,Hp[i]?=some v:=⟨_,List.getElem?_eq_getElem (l:=Hp) hil⟩;have har:ar≤1:=Sq hx;refine Kb (α:=Unit) (λx=>True) (λx=>[⟨kb,0+i*4,cC (nm,dt,nu,ar)⟩]) (λx=>[]) (λw f hM=>⟨(),tQ,(λe he=>by cases he with|head=>exact Cs.flat cC 4 (λ_=>rfl) Hp 0 i _ hM.f0 hx|tail _ h=>cases h),λ_ h=>by cases h⟩) (λx=>Aw.mem tQ) ?_;rintro⟨⟩ -;refine Aa 11 [100,0,0,0] (aI oM<|y2<|λb2=>y<|y<|λ_=>Br rfl rfl (eC Bu rfl rfl) (λw f hM=>Bl w f hM.vl dt) (λx=>trivial) ?_);rintro⟨⟩ -;refine Aa 14 [0,1] (λb3=>y<|y<|λ_=>MD 76 4 ?_);refine EZ (α:=Nat×List Value×Option Addr×Nat) (λx=>ar-x.1) (λx=>x.1≤ar) (λx=>(E8 2 (pB A.cb) 4 (pB b2) 5 (pB b3) 15 (.slice (some ⟨kb,0,none⟩) 8 8) 16 (iV ((8:Nat):Int)) 17 (iV (i:Int)) 26 (iV (ar:Int)) 27 (iV (x.1:Int)))) (λx=>⟨λ_=>False,Bz A,As 84 163 A (⟨[],0,WM i,[],[],0⟩:CS),w,f⟩) (λx=>[⟨b3,[.slice x.2.2.1 x.1 x.2.2.2,iV 1,iV 0,S dt,.slice none 0 0,.slice none 0 0],120,true⟩,⟨b2,cC (nm,dt,nu,ar),118,true⟩]) (λx=>[⟨76,4,x.2.2.1,x.2.2.2,x.1,x.2.1⟩]) (λx=>[]) (λx=>[λw f=>Be w f (Nq x.1) x.2.1,λw f=>Cs w f kb 0 PH,λw f=>EE w f]) (0,[],none,0) (Nat.zero_le _) lE (λw f hM=>hM.more (B':=[]) (F':=[λw f=>Be w f .nil []]) nE (AE.mem ⟨rfl,tQ⟩) (Aw.mem ⟨Be.mono,tQ⟩) |>.less (sK (sK sZ)) sR nE (mR [0,1,2])) ?_;rintro⟨j,xs,ra,rc⟩ hj;dsimp only at hj ⊢;have hj0:=hj;refine Aa 6 [] (λ_=>AJ 28 rfl rfl (λh2=>?_) (λh2=>?_));refine Aa 5 [] (λ_=>?_);have hjl:j<ar:=by have:=of_decide_eq_true h2;omega
 refine Cv [1] Ak (.rd 0 (.br 1 (.br 2 (.br 3 (.br 4 (.rd 5 (.br 6 .fin .fin)) .fin) .fin) .fin) (.br 2 (.br 1 (.br 3 (.br 4 (.rd 5 (.br 6 .fin .fin)) .fin) .fin) (.br 3 (.br 1 (.br 4 (.rd 5 (.br 6 .fin .fin)) .fin) .fin) .fin)) .fin))) rfl kR<|A1 1 [] (λ_=>Af rfl ?_ ?_);refine Aa 2 [0] (y<|λ_=>Au [1] rfl<|Af rfl ?_ Aj);refine Br rfl rfl (eC Bu rfl rfl) (λw f hM=>Bl w f hM.vl [115,116,114,105,110,103]) (λx=>trivial) ?_;rintro⟨⟩ -;refine Aa 1 [] (λ_=>Au [1] rfl<|Af rfl ?_ Aj);refine Aa 2 [] (λb4=>λ_=>Au [2] rfl<|Af rfl ?_ Aj);refine CT 0 0 rfl rfl CU rfl rfl rfl rfl rfl rfl rfl rfl (λ_ _=>rfl) oM oM λra2 rc2=>Aa 1 [] (λ_=>Au [2] rfl<|A1 1 [] (λ_=>Af rfl ?_ Aj));exact Aa 2 [1] (y<|λ_=>Au [2] rfl<|Bf<|Aa 6 [] (aI ⟨oM,oM⟩<|λ_=>CY ((j+1,xs++tC (c0 bS) none 0,ra2,rc2)) (show ar-(j+1)<ar-j by omega) (show j+1≤ar by omega) lE (λw f hM=>⟨_,(hM.more (B':=[]) (F':=[λw f=>Be w f (Nq (j+1)) (xs++tC (c0 bS) none 0)]) nE (AE.mem ⟨Be.snoc (Al.nil _ _ _ _) hM.f0,tQ⟩) (Aw.mem ⟨Be.mono,tQ⟩)).less (sD (sK (sK sZ))) sR nE (mR [0,2,3])⟩)));refine Af rfl ?_ Aj;refine Br rfl rfl (eC Bu rfl rfl) (λw f hM=>Bl w f hM.vl [115,116,114,105,110,103]) (λx=>trivial) ?_;rintro⟨⟩ -;refine Aa 1 [] (λ_=>Au [1] rfl<|Af rfl ?_ ?_);refine Aa 2 [0] (y<|λ_=>Au [1] rfl<|Af rfl ?_ Aj);refine Aa 2 [] (λb5=>λ_=>Au [2] rfl<|Af rfl ?_ Aj);refine CT 0 0 rfl rfl CU rfl rfl rfl rfl rfl rfl rfl rfl (λ_ _=>rfl) oM oM λra2 rc2=>Aa 1 [] (λ_=>Au [2] rfl<|A1 1 [] (λ_=>Af rfl ?_ Aj));exact Aa 2 [1] (y<|λ_=>Au [2] rfl<|Bf<|Aa 6 [] (aI ⟨oM,oM⟩<|λ_=>CY ((j+1,xs++tC (c0 bS) none 0,ra2,rc2)) (show ar-(j+1)<ar-j by omega) (show j+1≤ar by omega) lE (λw f hM=>⟨_,(hM.more (B':=[]) (F':=[λw f=>Be w f (Nq (j+1)) (xs++tC (c0 bS) none 0)]) nE (AE.mem ⟨Be.snoc (Al.nil _ _ _ _) hM.f0,tQ⟩) (Aw.mem ⟨Be.mono,tQ⟩)).less (sD (sK (sK sZ))) sR nE (mR [0,2,3])⟩)));refine Af rfl ?_ Aj;refine Aa 2 [] (λb6=>λ_=>Au [2] rfl<|Af rfl ?_ Aj);refine Aa 2 [1] (y<|λ_=>Au [2] rfl<|Af rfl ?_ Aj);refine CT 0 0 rfl rfl CU rfl rfl rfl rfl rfl rfl rfl rfl (λ_ _=>rfl) oM oM λra2 rc2=>Aa 1 [] (λ_=>Au [2] rfl<|A1 1 [] (λ_=>Af rfl ?_ Aj));exact Aa 2 [1] (y<|λ_=>Au [2] rfl<|Bf<|Aa 6 [] (aI ⟨oM,oM⟩<|λ_=>CY ((j+1,xs++tC (c0 bS) none 0,ra2,rc2)) (show ar-(j+1)<ar-j by omega) (show j+1≤ar by omega) lE (λw f hM=>⟨_,(hM.more (B':=[]) (F':=[λw f=>Be w f (Nq (j+1)) (xs++tC (c0 bS) none 0)]) nE (AE.mem ⟨Be.snoc (Al.nil _ _ _ _) hM.f0,tQ⟩) (Aw.mem ⟨Be.mono,tQ⟩)).less (sD (sK (sK sZ))) sR nE (mR [0,2,3])⟩)));refine Aa 3 [] (λ_=>EH<|Aa 2 [] (λ_=>?_));obtain rfl:j=ar:=by have:=of_decide_eq_false h2;omega
 refine LF (λw f=>Al w f (Nq j) ra rc) Al.mono (λw f hM=>Ha hM hM.f0)<|Ki (λw=>AI w A.cb [pB A.sb,.map (some A.km),.map (some A.dm),.map (some A.rm),iV 0] 84) (λw f h _=>h.blk) [0,1] Ak (rd [0,1,2,3,4,5,6] (.br 7 .fin .fin)) rfl kR kR kR (λ_ _ _ _ _ h=>h)<|A1 3 [] (λ_=>F6 rfl rfl rfl (λw hK=>Ai rfl OG hK.2.2 rfl)<|A1 3 [1,0] (y<|y<|λ_=>Af rfl ?_ Aj));exact sN (m:=⟨Nq j,c0 dt,[]⟩) (aa:=ra) (ac:=rc) (oa:=none) (oc:=0) (va:=none) (vc:=0) (i1:=0) hA hwi rfl rfl rfl rfl (by unfold aA tC;simp only[KF];rfl) OI FH (Mc i hil _ hx) rfl rfl rfl<|Aa 1 [] (λ_=>AW [0,1] (λw f h _=>h.blk) rfl (λ_ h=>h)<|Bf<|Aa 6 [] (aI ⟨oM,oM⟩<|λ_=>CY (i+1) (show 8-(i+1)<8-i by omega) ⟨show i+1≤8 by omega,(by rw[Np hx];exact hwi.addCons (Mc i hil _ hx) ⟨by rw[KF];dsimp only;omega,NJ _,CF (R7 hx),Nat.zero_le _⟩)⟩ lE (λw f hM=>⟨_,by rw[Np hx];exact hM.less (sD (sD sZ)) sR nE (mR [2,3])⟩)));refine Aa 3 [] (λ_=>EH<|Aa 3 [] (λ_=>?_));obtain rfl:i=8:=by have:=of_decide_eq_false h1;omega
 refine Aa 4 [] (λ_=>D6 (v:=iV 0) rfl rfl (λw f hM=>Ai rfl Hz hM.res.blk rfl)<|Aa 3 [] (aI ⟨oM,oM⟩<|λ_=>tZ (v:=0-1) hA rfl rfl rfl Hz<|Aa 10 [] (λ_=>Br rfl rfl (eC lH rfl rfl) (λw f hM=>S1 w f hM.vl hM.f1) (λx=>⟨Tl.mono,tQ⟩) ?_)));rintro⟨pa,pc⟩ -;refine Aa 5 [] (λ_=>?_);refine EZ (α:=Nat×Option Addr) (λx=>Cc.length-x.1) (λx=>x.1≤Cc.length) (λx=>(E5 2 (pB A.cb) 6 (.pointer x.2) 51 (.slice pa Cc.length pc) 52 (iV (Cc.length:Int)) 53 (iV (x.1:Int)))) (λx=>⟨λ_=>False,Bz A,As 84 163 A (⟨[],0,WM 8,[],[],0-1⟩:CS),w,f⟩) (λx=>[]) (λx=>[]) (λx=>[]) (λx=>[λw f=>Tl w f Cc pa pc,λw f=>AF w f (Gz x.1) x.2]) (0,none) (Nat.zero_le _) lE (λw f hM=>hM.more (B':=[]) (F':=[λw f=>AF w f (Gz 0) none]) nE (AE.mem ⟨rfl,tQ⟩) (Aw.mem ⟨AF.mono,tQ⟩) |>.less sR sR nE (mR [1,0])) ?_;rintro⟨i,ea⟩ hi;dsimp only at hi ⊢;refine Aa 6 [] (λ_=>AJ 54 rfl rfl (λh3=>?_) (λh3=>?_));refine Aa 6 [] (λ_=>?_);have hpl:Cc.length≤1000:=dC;have hil:i<Cc.length:=by have:=of_decide_eq_true h3;omega
 obtain⟨p,hx⟩:∃v,Cc[i]?=some v:=⟨_,List.getElem?_eq_getElem hil⟩;have hpb:p.2.2.bnd:=NK p (List.mem_of_getElem? hx);refine Kb (α:=Nat×Option Addr×Nat) (λx=>pa=some ⟨x.1,0,none⟩) (λx=>[⟨x.1,0+i*6,pC p x.2.1 x.2.2⟩]) (λx=>[λw f=>Al w f p.2.2.kids x.2.1 x.2.2]) (λw f hM=>let ⟨_,b,xs,h1,h2,h3⟩:=hM.f0;let ⟨a,c,h4,h5⟩:=CG.get h3 h2 hx;⟨(b,a,c),h1,(λe he=>by cases he with|head=>exact h4|tail _ h=>cases h),AE.mem ⟨h5,tQ⟩⟩) (λx=>Aw.mem ⟨Al.mono,tQ⟩) ?_;rintro⟨pb,qa,qc⟩ rfl;refine Aa 7 [100,0,0] (aI oM<|y2<|λb7=>y<|λ_=>?_);refine Nv (α:=Option Addr) (λx=>True) (λx=>(E5 2 (pB A.cb) 6 (.pointer x) 51 (.slice (some (⟨pb,0,none⟩:Addr)) Cc.length pc) 52 (iV (Cc.length:Int)) 53 (iV (i:Int)))) (λx=>⟨λ_=>False,Bz A,As 84 163 A (⟨[],0,WM 8,[],[],0-1⟩:CS),w,f⟩) (λx=>[]) (λx=>[]) (λx=>[]) (λx=>[λw f=>Tl w f Cc (some (⟨pb,0,none⟩:Addr)) pc,λw f=>AF w f (Pd p::Gz i) x]) ?_ ?_;refine Ki (λw=>AI w A.cb [pB A.sb,.map (some A.km),.map (some A.dm),.map (some A.rm),iV (0-1)] 84) (λw f h _=>h.blk) [0] Ak (rd [0,1,2,3,5,6,7,8,12,13,14,15,18] (.br 4 (.br 9 (.br 10 (.br 11 (.br 16 (.rd 17 (.rd 19 (.br 20 (.rd 21 .fin) .fin))) .fin) (.br 16 (.br 11 (.rd 17 (.rd 19 (.br 20 (.rd 21 .fin) .fin))) .fin) .fin)) (.br 16 (.br 10 (.br 11 (.rd 17 (.rd 19 (.br 20 (.rd 21 .fin) .fin))) .fin) .fin) .fin)) (.br 16 (.br 9 (.br 10 (.br 11 (.rd 17 (.rd 19 (.br 20 (.rd 21 .fin) .fin))) .fin) .fin) .fin) .fin)) (.br 9 (.br 4 (.br 10 (.br 11 (.br 16 (.rd 17 (.rd 19 (.br 20 (.rd 21 .fin) .fin))) .fin) (.br 16 (.br 11 (.rd 17 (.rd 19 (.br 20 (.rd 21 .fin) .fin))) .fin) .fin)) (.br 16 (.br 10 (.br 11 (.rd 17 (.rd 19 (.br 20 (.rd 21 .fin) .fin))) .fin) .fin) .fin)) (.br 10 (.br 4 (.br 11 (.br 16 (.rd 17 (.rd 19 (.br 20 (.rd 21 .fin) .fin))) .fin) (.br 16 (.br 11 (.rd 17 (.rd 19 (.br 20 (.rd 21 .fin) .fin))) .fin) .fin)) (.br 16 (.br 4 (.br 11 (.rd 17 (.rd 19 (.br 20 (.rd 21 .fin) .fin))) .fin) .fin) .fin)) (.br 16 (.br 4 (.br 10 (.br 11 (.rd 17 (.rd 19 (.br 20 (.rd 21 .fin) .fin))) .fin) .fin) (.br 10 (.br 4 (.br 11 (.rd 17 (.rd 19 (.br 20 (.rd 21 .fin) .fin))) .fin) .fin) .fin)) .fin))) (.br 16 (.br 4 (.br 9 (.br 10 (.br 11 (.rd 17 (.rd 19 (.br 20 (.rd 21 .fin) .fin))) .fin) .fin) .fin) (.br 9 (.br 4 (.br 10 (.br 11 (.rd 17 (.rd 19 (.br 20 (.rd 21 .fin) .fin))) .fin) .fin) (.br 10 (.br 4 (.br 11 (.rd 17 (.rd 19 (.br 20 (.rd 21 .fin) .fin))) .fin) .fin) .fin)) .fin)) .fin)))) rfl kR kR kR (λ_ _ _ _ _ h=>h)<|A1 7 [0,0] (y<|y<|λ_=>F6 rfl rfl rfl (λw hK=>(Ai rfl Hz hK.2.2 rfl:AG _ _ _ _ _ (iV (0-1)) _))<|A1 3 [] (λ_=>F6 rfl rfl rfl (λw hK=>(Ai rfl Hz hK.2.2 rfl:AG _ _ _ _ _ (iV (0-1)) _))<|A1 1 [] (λ_=>Af rfl ?_ ?_)));refine Aa 2 [] (λb8=>λ_=>AW [1] (λw f h _=>h.blk) rfl (λ_ h=>h)<|Af rfl ?_ ?_);refine Br rfl rfl (eC GH rfl rfl) (λw f hM=>DA w f hM.vl (0-1)) (λx=>trivial) ?_;rintro⟨⟩ -;refine Aa 1 [] (λ_=>AW [1] (λw f h _=>h.blk) rfl (λ_ h=>h)<|Af rfl ?_ ?_)
 refine Aa 2 [] (λb9=>λ_=>AW [2] (λw f h _=>h.blk) rfl (λ_ h=>h)<|Af rfl ?_ ?_);refine CJ 1 rfl rfl<|CJ 0 rfl rfl<|Br (α:=Option Addr×Nat) rfl rfl (eC Df rfl rfl) (λw f hM=>B5 w f hM.vl [1] (some ⟨b8,0,none⟩) 1 (T1.var (0-1)).one (some ⟨b9,0,none⟩) 1 dC dC tQ ⟨Nat.le_refl _,.inr ⟨b8,0,rfl,hM.b1⟩⟩ (CL (l:=[(.var (0-1),none,0)]) ⟨Al.nil _ _ _ _,tQ⟩ hM.b0) p.2.2 qa qc hpb hM.f0) (λ_=>⟨Al.mono,tQ⟩) ?_;rintro⟨wa,wc⟩ -;refine Aa 1 [] (λ_=>AW [0] (λw f h _=>h.blk) rfl (λ_ h=>.tail _ (.tail _ h))<|Af rfl ?_ Aj);refine Aa 2 [] (λb10=>λ_=>AW [1] (λw f h _=>h.blk) rfl (λ_ h=>.tail _ (.tail _ h))<|A1 2 [] (λ_=>Af rfl ?_ Aj));exact Aa 2 [] (λb11=>λ_=>AW [2] (λw f h _=>h.blk) rfl (λ_ h=>.tail _ (.tail _ h))<|A1 1 [] (λ_=>Bf<|CJ 0 rfl rfl<|CJ 0 rfl rfl<|HE (some ⟨b11,0,none⟩) tQ lE (λw f hM=>⟨f,(hM.more (B':=[]) (F':=[λw f=>AF w f (Pd p::Gz i) (some ⟨b11,0,none⟩)]) nE (AE.mem ⟨⟨b11,wa,wc,some ⟨b10,0,none⟩,1,ea,rfl,hM.b1,hM.f0,⟨Nat.le_refl _,.inr ⟨b10,0,rfl,hM.b0⟩⟩,hM.f3⟩,tQ⟩) (Aw.mem ⟨AF.mono,tQ⟩)).less (sD sZ) sR nE (mR [3,0])⟩)));refine Af rfl ?_ Aj;refine Aa 2 [] (λb12=>λ_=>AW [3] (λw f h _=>h.blk) rfl (λ_ h=>h)<|Af rfl ?_ Aj);refine CJ 2 rfl rfl<|CJ 1 rfl rfl<|Br (α:=Option Addr×Nat) rfl rfl (eC Df rfl rfl) (λw f hM=>B5 w f hM.vl [1] (some ⟨b8,0,none⟩) 1 (T1.var (0-1)).one (some ⟨b9,0,none⟩) 1 dC dC tQ ⟨Nat.le_refl _,.inr ⟨b8,0,rfl,hM.b1⟩⟩ (CL (l:=[(.var (0-1),none,0)]) ⟨Al.nil _ _ _ _,tQ⟩ hM.b0) p.2.2 qa qc hpb hM.f0) (λ_=>⟨Al.mono,tQ⟩) ?_;rintro⟨wa,wc⟩ -;refine Aa 1 [] (λ_=>AW [1] (λw f h _=>h.blk) rfl (λ_ h=>.tail _ (.tail _ h))<|A1 2 [] (λ_=>Af rfl ?_ Aj));exact Aa 2 [] (λb13=>λ_=>AW [2] (λw f h _=>h.blk) rfl (λ_ h=>.tail _ (.tail _ h))<|A1 1 [] (λ_=>Bf<|CJ 0 rfl rfl<|CJ 0 rfl rfl<|HE (some ⟨b13,0,none⟩) tQ lE (λw f hM=>⟨f,(hM.more (B':=[]) (F':=[λw f=>AF w f (Pd p::Gz i) (some ⟨b13,0,none⟩)]) nE (AE.mem ⟨⟨b13,wa,wc,some ⟨b12,0,none⟩,1,ea,rfl,hM.b1,hM.f0,⟨Nat.le_refl _,.inr ⟨b12,0,rfl,hM.b0⟩⟩,hM.f3⟩,tQ⟩) (Aw.mem ⟨AF.mono,tQ⟩)).less (sD sZ) sR nE (mR [3,0])⟩)));refine Af rfl ?_ Aj;refine Aa 2 [] (λb14=>λ_=>AW [2] (λw f h _=>h.blk) rfl (λ_ h=>h)<|Af rfl ?_ Aj);refine Aa 2 [] (λb15=>λ_=>AW [3] (λw f h _=>h.blk) rfl (λ_ h=>h)<|Af rfl ?_ Aj);refine CJ 2 rfl rfl<|CJ 0 rfl rfl<|Br (α:=Option Addr×Nat) rfl rfl (eC Df rfl rfl) (λw f hM=>B5 w f hM.vl [1] (some ⟨b8,0,none⟩) 1 (T1.var (0-1)).one (some ⟨b15,0,none⟩) 1 dC dC tQ ⟨Nat.le_refl _,.inr ⟨b8,0,rfl,hM.b1⟩⟩ (CL (l:=[(.var (0-1),none,0)]) ⟨Al.nil _ _ _ _,tQ⟩ hM.b0) p.2.2 qa qc hpb hM.f0) (λ_=>⟨Al.mono,tQ⟩) ?_;rintro⟨wa,wc⟩ -;refine Aa 1 [] (λ_=>AW [1] (λw f h _=>h.blk) rfl (λ_ h=>.tail _ (.tail _ h))<|A1 2 [] (λ_=>Af rfl ?_ Aj))
 exact Aa 2 [] (λb16=>λ_=>AW [2] (λw f h _=>h.blk) rfl (λ_ h=>.tail _ (.tail _ h))<|A1 1 [] (λ_=>Bf<|CJ 0 rfl rfl<|CJ 0 rfl rfl<|HE (some ⟨b16,0,none⟩) tQ lE (λw f hM=>⟨f,(hM.more (B':=[]) (F':=[λw f=>AF w f (Pd p::Gz i) (some ⟨b16,0,none⟩)]) nE (AE.mem ⟨⟨b16,wa,wc,some ⟨b14,0,none⟩,1,ea,rfl,hM.b1,hM.f0,⟨Nat.le_refl _,.inr ⟨b14,0,rfl,hM.b0⟩⟩,hM.f3⟩,tQ⟩) (Aw.mem ⟨AF.mono,tQ⟩)).less (sD sZ) sR nE (mR [3,0])⟩)));refine Af rfl ?_ Aj;refine Aa 2 [] (λb17=>λ_=>AW [2] (λw f h _=>h.blk) rfl (λ_ h=>h)<|Af rfl ?_ Aj);refine Br rfl rfl (eC GH rfl rfl) (λw f hM=>DA w f hM.vl (0-1)) (λx=>trivial) ?_;rintro⟨⟩ -;refine Aa 1 [] (λ_=>AW [2] (λw f h _=>h.blk) rfl (λ_ h=>h)<|Af rfl ?_ Aj);refine Aa 2 [] (λb18=>λ_=>AW [3] (λw f h _=>h.blk) rfl (λ_ h=>h)<|Af rfl ?_ Aj);refine CJ 2 rfl rfl<|CJ 0 rfl rfl<|Br (α:=Option Addr×Nat) rfl rfl (eC Df rfl rfl) (λw f hM=>B5 w f hM.vl [1] (some ⟨b8,0,none⟩) 1 (T1.var (0-1)).one (some ⟨b18,0,none⟩) 1 dC dC tQ ⟨Nat.le_refl _,.inr ⟨b8,0,rfl,hM.b1⟩⟩ (CL (l:=[(.var (0-1),none,0)]) ⟨Al.nil _ _ _ _,tQ⟩ hM.b0) p.2.2 qa qc hpb hM.f0) (λ_=>⟨Al.mono,tQ⟩) ?_;rintro⟨wa,wc⟩ -;refine Aa 1 [] (λ_=>AW [1] (λw f h _=>h.blk) rfl (λ_ h=>.tail _ (.tail _ h))<|A1 2 [] (λ_=>Af rfl ?_ Aj));exact Aa 2 [] (λb19=>λ_=>AW [2] (λw f h _=>h.blk) rfl (λ_ h=>.tail _ (.tail _ h))<|A1 1 [] (λ_=>Bf<|CJ 0 rfl rfl<|CJ 0 rfl rfl<|HE (some ⟨b19,0,none⟩) tQ lE (λw f hM=>⟨f,(hM.more (B':=[]) (F':=[λw f=>AF w f (Pd p::Gz i) (some ⟨b19,0,none⟩)]) nE (AE.mem ⟨⟨b19,wa,wc,some ⟨b17,0,none⟩,1,ea,rfl,hM.b1,hM.f0,⟨Nat.le_refl _,.inr ⟨b17,0,rfl,hM.b0⟩⟩,hM.f3⟩,tQ⟩) (Aw.mem ⟨AF.mono,tQ⟩)).less (sD sZ) sR nE (mR [3,0])⟩)));refine Af rfl ?_ ?_;refine Br rfl rfl (eC GH rfl rfl) (λw f hM=>DA w f hM.vl (0-1)) (λx=>trivial) ?_;rintro⟨⟩ -;refine Aa 1 [] (λ_=>AW [0] (λw f h _=>h.blk) rfl (λ_ h=>h)<|Af rfl ?_ ?_);refine Aa 2 [] (λb20=>λ_=>AW [1] (λw f h _=>h.blk) rfl (λ_ h=>h)<|Af rfl ?_ ?_);refine Aa 2 [] (λb21=>λ_=>AW [2] (λw f h _=>h.blk) rfl (λ_ h=>h)<|Af rfl ?_ ?_);refine CJ 1 rfl rfl<|CJ 0 rfl rfl<|Br (α:=Option Addr×Nat) rfl rfl (eC Df rfl rfl) (λw f hM=>B5 w f hM.vl [1] (some ⟨b20,0,none⟩) 1 (T1.var (0-1)).one (some ⟨b21,0,none⟩) 1 dC dC tQ ⟨Nat.le_refl _,.inr ⟨b20,0,rfl,hM.b1⟩⟩ (CL (l:=[(.var (0-1),none,0)]) ⟨Al.nil _ _ _ _,tQ⟩ hM.b0) p.2.2 qa qc hpb hM.f0) (λ_=>⟨Al.mono,tQ⟩) ?_;rintro⟨wa,wc⟩ -;refine Aa 1 [] (λ_=>AW [0] (λw f h _=>h.blk) rfl (λ_ h=>.tail _ (.tail _ h))<|Af rfl ?_ Aj);refine Aa 2 [] (λb22=>λ_=>AW [1] (λw f h _=>h.blk) rfl (λ_ h=>.tail _ (.tail _ h))<|A1 2 [] (λ_=>Af rfl ?_ Aj))
 exact Aa 2 [] (λb23=>λ_=>AW [2] (λw f h _=>h.blk) rfl (λ_ h=>.tail _ (.tail _ h))<|A1 1 [] (λ_=>Bf<|CJ 0 rfl rfl<|CJ 0 rfl rfl<|HE (some ⟨b23,0,none⟩) tQ lE (λw f hM=>⟨f,(hM.more (B':=[]) (F':=[λw f=>AF w f (Pd p::Gz i) (some ⟨b23,0,none⟩)]) nE (AE.mem ⟨⟨b23,wa,wc,some ⟨b22,0,none⟩,1,ea,rfl,hM.b1,hM.f0,⟨Nat.le_refl _,.inr ⟨b22,0,rfl,hM.b0⟩⟩,hM.f3⟩,tQ⟩) (Aw.mem ⟨AF.mono,tQ⟩)).less (sD sZ) sR nE (mR [3,0])⟩)));refine Af rfl ?_ Aj;refine Aa 2 [] (λb24=>λ_=>AW [3] (λw f h _=>h.blk) rfl (λ_ h=>h)<|Af rfl ?_ Aj);refine CJ 2 rfl rfl<|CJ 1 rfl rfl<|Br (α:=Option Addr×Nat) rfl rfl (eC Df rfl rfl) (λw f hM=>B5 w f hM.vl [1] (some ⟨b20,0,none⟩) 1 (T1.var (0-1)).one (some ⟨b21,0,none⟩) 1 dC dC tQ ⟨Nat.le_refl _,.inr ⟨b20,0,rfl,hM.b1⟩⟩ (CL (l:=[(.var (0-1),none,0)]) ⟨Al.nil _ _ _ _,tQ⟩ hM.b0) p.2.2 qa qc hpb hM.f0) (λ_=>⟨Al.mono,tQ⟩) ?_;rintro⟨wa,wc⟩ -;refine Aa 1 [] (λ_=>AW [1] (λw f h _=>h.blk) rfl (λ_ h=>.tail _ (.tail _ h))<|A1 2 [] (λ_=>Af rfl ?_ Aj));exact Aa 2 [] (λb25=>λ_=>AW [2] (λw f h _=>h.blk) rfl (λ_ h=>.tail _ (.tail _ h))<|A1 1 [] (λ_=>Bf<|CJ 0 rfl rfl<|CJ 0 rfl rfl<|HE (some ⟨b25,0,none⟩) tQ lE (λw f hM=>⟨f,(hM.more (B':=[]) (F':=[λw f=>AF w f (Pd p::Gz i) (some ⟨b25,0,none⟩)]) nE (AE.mem ⟨⟨b25,wa,wc,some ⟨b24,0,none⟩,1,ea,rfl,hM.b1,hM.f0,⟨Nat.le_refl _,.inr ⟨b24,0,rfl,hM.b0⟩⟩,hM.f3⟩,tQ⟩) (Aw.mem ⟨AF.mono,tQ⟩)).less (sD sZ) sR nE (mR [3,0])⟩)));refine Af rfl ?_ Aj;refine Aa 2 [] (λb26=>λ_=>AW [2] (λw f h _=>h.blk) rfl (λ_ h=>h)<|Af rfl ?_ Aj);refine Aa 2 [] (λb27=>λ_=>AW [3] (λw f h _=>h.blk) rfl (λ_ h=>h)<|Af rfl ?_ Aj);refine CJ 2 rfl rfl<|CJ 0 rfl rfl<|Br (α:=Option Addr×Nat) rfl rfl (eC Df rfl rfl) (λw f hM=>B5 w f hM.vl [1] (some ⟨b20,0,none⟩) 1 (T1.var (0-1)).one (some ⟨b27,0,none⟩) 1 dC dC tQ ⟨Nat.le_refl _,.inr ⟨b20,0,rfl,hM.b1⟩⟩ (CL (l:=[(.var (0-1),none,0)]) ⟨Al.nil _ _ _ _,tQ⟩ hM.b0) p.2.2 qa qc hpb hM.f0) (λ_=>⟨Al.mono,tQ⟩) ?_;rintro⟨wa,wc⟩ -;refine Aa 1 [] (λ_=>AW [1] (λw f h _=>h.blk) rfl (λ_ h=>.tail _ (.tail _ h))<|A1 2 [] (λ_=>Af rfl ?_ Aj));exact Aa 2 [] (λb28=>λ_=>AW [2] (λw f h _=>h.blk) rfl (λ_ h=>.tail _ (.tail _ h))<|A1 1 [] (λ_=>Bf<|CJ 0 rfl rfl<|CJ 0 rfl rfl<|HE (some ⟨b28,0,none⟩) tQ lE (λw f hM=>⟨f,(hM.more (B':=[]) (F':=[λw f=>AF w f (Pd p::Gz i) (some ⟨b28,0,none⟩)]) nE (AE.mem ⟨⟨b28,wa,wc,some ⟨b26,0,none⟩,1,ea,rfl,hM.b1,hM.f0,⟨Nat.le_refl _,.inr ⟨b26,0,rfl,hM.b0⟩⟩,hM.f3⟩,tQ⟩) (Aw.mem ⟨AF.mono,tQ⟩)).less (sD sZ) sR nE (mR [3,0])⟩)));refine Af rfl ?_ ?_;refine Aa 2 [] (λb29=>λ_=>AW [1] (λw f h _=>h.blk) rfl (λ_ h=>h)<|Af rfl ?_ ?_);refine Aa 2 [] (λb30=>λ_=>AW [2] (λw f h _=>h.blk) rfl (λ_ h=>h)<|Af rfl ?_ ?_)
 refine CJ 0 rfl rfl<|CJ 0 rfl rfl<|Br (α:=Option Addr×Nat) rfl rfl (eC Df rfl rfl) (λw f hM=>B5 w f hM.vl [1] (some ⟨b30,0,none⟩) 1 (T1.var (0-1)).one (some ⟨b29,0,none⟩) 1 dC dC tQ ⟨Nat.le_refl _,.inr ⟨b30,0,rfl,hM.b1⟩⟩ (CL (l:=[(.var (0-1),none,0)]) ⟨Al.nil _ _ _ _,tQ⟩ hM.b0) p.2.2 qa qc hpb hM.f0) (λ_=>⟨Al.mono,tQ⟩) ?_;rintro⟨wa,wc⟩ -;refine Aa 1 [] (λ_=>AW [0] (λw f h _=>h.blk) rfl (λ_ h=>.tail _ (.tail _ h))<|Af rfl ?_ Aj);refine Aa 2 [] (λb31=>λ_=>AW [1] (λw f h _=>h.blk) rfl (λ_ h=>.tail _ (.tail _ h))<|A1 2 [] (λ_=>Af rfl ?_ Aj));exact Aa 2 [] (λb32=>λ_=>AW [2] (λw f h _=>h.blk) rfl (λ_ h=>.tail _ (.tail _ h))<|A1 1 [] (λ_=>Bf<|CJ 0 rfl rfl<|CJ 0 rfl rfl<|HE (some ⟨b32,0,none⟩) tQ lE (λw f hM=>⟨f,(hM.more (B':=[]) (F':=[λw f=>AF w f (Pd p::Gz i) (some ⟨b32,0,none⟩)]) nE (AE.mem ⟨⟨b32,wa,wc,some ⟨b31,0,none⟩,1,ea,rfl,hM.b1,hM.f0,⟨Nat.le_refl _,.inr ⟨b31,0,rfl,hM.b0⟩⟩,hM.f3⟩,tQ⟩) (Aw.mem ⟨AF.mono,tQ⟩)).less (sD sZ) sR nE (mR [3,0])⟩)));refine Af rfl ?_ Aj;refine Aa 2 [] (λb33=>λ_=>AW [3] (λw f h _=>h.blk) rfl (λ_ h=>h)<|Af rfl ?_ Aj);refine CJ 1 rfl rfl<|CJ 1 rfl rfl<|Br (α:=Option Addr×Nat) rfl rfl (eC Df rfl rfl) (λw f hM=>B5 w f hM.vl [1] (some ⟨b30,0,none⟩) 1 (T1.var (0-1)).one (some ⟨b29,0,none⟩) 1 dC dC tQ ⟨Nat.le_refl _,.inr ⟨b30,0,rfl,hM.b1⟩⟩ (CL (l:=[(.var (0-1),none,0)]) ⟨Al.nil _ _ _ _,tQ⟩ hM.b0) p.2.2 qa qc hpb hM.f0) (λ_=>⟨Al.mono,tQ⟩) ?_;rintro⟨wa,wc⟩ -;refine Aa 1 [] (λ_=>AW [1] (λw f h _=>h.blk) rfl (λ_ h=>.tail _ (.tail _ h))<|A1 2 [] (λ_=>Af rfl ?_ Aj));exact Aa 2 [] (λb34=>λ_=>AW [2] (λw f h _=>h.blk) rfl (λ_ h=>.tail _ (.tail _ h))<|A1 1 [] (λ_=>Bf<|CJ 0 rfl rfl<|CJ 0 rfl rfl<|HE (some ⟨b34,0,none⟩) tQ lE (λw f hM=>⟨f,(hM.more (B':=[]) (F':=[λw f=>AF w f (Pd p::Gz i) (some ⟨b34,0,none⟩)]) nE (AE.mem ⟨⟨b34,wa,wc,some ⟨b33,0,none⟩,1,ea,rfl,hM.b1,hM.f0,⟨Nat.le_refl _,.inr ⟨b33,0,rfl,hM.b0⟩⟩,hM.f3⟩,tQ⟩) (Aw.mem ⟨AF.mono,tQ⟩)).less (sD sZ) sR nE (mR [3,0])⟩)));refine Af rfl ?_ Aj;refine Aa 2 [] (λb35=>λ_=>AW [2] (λw f h _=>h.blk) rfl (λ_ h=>h)<|Af rfl ?_ Aj);refine Aa 2 [] (λb36=>λ_=>AW [3] (λw f h _=>h.blk) rfl (λ_ h=>h)<|Af rfl ?_ Aj);refine CJ 0 rfl rfl<|CJ 1 rfl rfl<|Br (α:=Option Addr×Nat) rfl rfl (eC Df rfl rfl) (λw f hM=>B5 w f hM.vl [1] (some ⟨b36,0,none⟩) 1 (T1.var (0-1)).one (some ⟨b29,0,none⟩) 1 dC dC tQ ⟨Nat.le_refl _,.inr ⟨b36,0,rfl,hM.b1⟩⟩ (CL (l:=[(.var (0-1),none,0)]) ⟨Al.nil _ _ _ _,tQ⟩ hM.b0) p.2.2 qa qc hpb hM.f0) (λ_=>⟨Al.mono,tQ⟩) ?_;rintro⟨wa,wc⟩ -;refine Aa 1 [] (λ_=>AW [1] (λw f h _=>h.blk) rfl (λ_ h=>.tail _ (.tail _ h))<|A1 2 [] (λ_=>Af rfl ?_ Aj))
 exact Aa 2 [] (λb37=>λ_=>AW [2] (λw f h _=>h.blk) rfl (λ_ h=>.tail _ (.tail _ h))<|A1 1 [] (λ_=>Bf<|CJ 0 rfl rfl<|CJ 0 rfl rfl<|HE (some ⟨b37,0,none⟩) tQ lE (λw f hM=>⟨f,(hM.more (B':=[]) (F':=[λw f=>AF w f (Pd p::Gz i) (some ⟨b37,0,none⟩)]) nE (AE.mem ⟨⟨b37,wa,wc,some ⟨b35,0,none⟩,1,ea,rfl,hM.b1,hM.f0,⟨Nat.le_refl _,.inr ⟨b35,0,rfl,hM.b0⟩⟩,hM.f3⟩,tQ⟩) (Aw.mem ⟨AF.mono,tQ⟩)).less (sD sZ) sR nE (mR [3,0])⟩)));refine Af rfl ?_ Aj;refine Aa 2 [] (λb38=>λ_=>AW [1] (λw f h _=>h.blk) rfl (λ_ h=>h)<|Af rfl ?_ ?_);refine Aa 2 [] (λb39=>λ_=>AW [2] (λw f h _=>h.blk) rfl (λ_ h=>h)<|Af rfl ?_ Aj);refine Aa 2 [] (λb40=>λ_=>AW [3] (λw f h _=>h.blk) rfl (λ_ h=>h)<|Af rfl ?_ Aj);refine CJ 1 rfl rfl<|CJ 0 rfl rfl<|Br (α:=Option Addr×Nat) rfl rfl (eC Df rfl rfl) (λw f hM=>B5 w f hM.vl [1] (some ⟨b39,0,none⟩) 1 (T1.var (0-1)).one (some ⟨b40,0,none⟩) 1 dC dC tQ ⟨Nat.le_refl _,.inr ⟨b39,0,rfl,hM.b1⟩⟩ (CL (l:=[(.var (0-1),none,0)]) ⟨Al.nil _ _ _ _,tQ⟩ hM.b0) p.2.2 qa qc hpb hM.f0) (λ_=>⟨Al.mono,tQ⟩) ?_;rintro⟨wa,wc⟩ -;refine Aa 1 [] (λ_=>AW [1] (λw f h _=>h.blk) rfl (λ_ h=>.tail _ (.tail _ h))<|A1 2 [] (λ_=>Af rfl ?_ Aj));exact Aa 2 [] (λb41=>λ_=>AW [2] (λw f h _=>h.blk) rfl (λ_ h=>.tail _ (.tail _ h))<|A1 1 [] (λ_=>Bf<|CJ 0 rfl rfl<|CJ 0 rfl rfl<|HE (some ⟨b41,0,none⟩) tQ lE (λw f hM=>⟨f,(hM.more (B':=[]) (F':=[λw f=>AF w f (Pd p::Gz i) (some ⟨b41,0,none⟩)]) nE (AE.mem ⟨⟨b41,wa,wc,some ⟨b38,0,none⟩,1,ea,rfl,hM.b1,hM.f0,⟨Nat.le_refl _,.inr ⟨b38,0,rfl,hM.b0⟩⟩,hM.f3⟩,tQ⟩) (Aw.mem ⟨AF.mono,tQ⟩)).less (sD sZ) sR nE (mR [3,0])⟩)));refine Af rfl ?_ Aj;refine Aa 2 [] (λb42=>λ_=>AW [2] (λw f h _=>h.blk) rfl (λ_ h=>h)<|Af rfl ?_ Aj);refine Aa 2 [] (λb43=>λ_=>AW [3] (λw f h _=>h.blk) rfl (λ_ h=>h)<|Af rfl ?_ Aj);refine CJ 0 rfl rfl<|CJ 0 rfl rfl<|Br (α:=Option Addr×Nat) rfl rfl (eC Df rfl rfl) (λw f hM=>B5 w f hM.vl [1] (some ⟨b43,0,none⟩) 1 (T1.var (0-1)).one (some ⟨b42,0,none⟩) 1 dC dC tQ ⟨Nat.le_refl _,.inr ⟨b43,0,rfl,hM.b1⟩⟩ (CL (l:=[(.var (0-1),none,0)]) ⟨Al.nil _ _ _ _,tQ⟩ hM.b0) p.2.2 qa qc hpb hM.f0) (λ_=>⟨Al.mono,tQ⟩) ?_;rintro⟨wa,wc⟩ -;refine Aa 1 [] (λ_=>AW [1] (λw f h _=>h.blk) rfl (λ_ h=>.tail _ (.tail _ h))<|A1 2 [] (λ_=>Af rfl ?_ Aj));exact Aa 2 [] (λb44=>λ_=>AW [2] (λw f h _=>h.blk) rfl (λ_ h=>.tail _ (.tail _ h))<|A1 1 [] (λ_=>Bf<|CJ 0 rfl rfl<|CJ 0 rfl rfl<|HE (some ⟨b44,0,none⟩) tQ lE (λw f hM=>⟨f,(hM.more (B':=[]) (F':=[λw f=>AF w f (Pd p::Gz i) (some ⟨b44,0,none⟩)]) nE (AE.mem ⟨⟨b44,wa,wc,some ⟨b38,0,none⟩,1,ea,rfl,hM.b1,hM.f0,⟨Nat.le_refl _,.inr ⟨b38,0,rfl,hM.b0⟩⟩,hM.f3⟩,tQ⟩) (Aw.mem ⟨AF.mono,tQ⟩)).less (sD sZ) sR nE (mR [3,0])⟩)));refine Af rfl ?_ Aj;refine Aa 2 [] (λb45=>λ_=>AW [1] (λw f h _=>h.blk) rfl (λ_ h=>h)<|Af rfl ?_ ?_);refine Aa 2 [] (λb46=>λ_=>AW [2] (λw f h _=>h.blk) rfl (λ_ h=>h)<|Af rfl ?_ Aj)
 refine Br rfl rfl (eC GH rfl rfl) (λw f hM=>DA w f hM.vl (0-1)) (λx=>trivial) ?_;rintro⟨⟩ -;refine Aa 1 [] (λ_=>AW [2] (λw f h _=>h.blk) rfl (λ_ h=>h)<|Af rfl ?_ Aj);refine Aa 2 [] (λb47=>λ_=>AW [3] (λw f h _=>h.blk) rfl (λ_ h=>h)<|Af rfl ?_ Aj);refine CJ 1 rfl rfl<|CJ 0 rfl rfl<|Br (α:=Option Addr×Nat) rfl rfl (eC Df rfl rfl) (λw f hM=>B5 w f hM.vl [1] (some ⟨b46,0,none⟩) 1 (T1.var (0-1)).one (some ⟨b47,0,none⟩) 1 dC dC tQ ⟨Nat.le_refl _,.inr ⟨b46,0,rfl,hM.b1⟩⟩ (CL (l:=[(.var (0-1),none,0)]) ⟨Al.nil _ _ _ _,tQ⟩ hM.b0) p.2.2 qa qc hpb hM.f0) (λ_=>⟨Al.mono,tQ⟩) ?_;rintro⟨wa,wc⟩ -;refine Aa 1 [] (λ_=>AW [1] (λw f h _=>h.blk) rfl (λ_ h=>.tail _ (.tail _ h))<|A1 2 [] (λ_=>Af rfl ?_ Aj));exact Aa 2 [] (λb48=>λ_=>AW [2] (λw f h _=>h.blk) rfl (λ_ h=>.tail _ (.tail _ h))<|A1 1 [] (λ_=>Bf<|CJ 0 rfl rfl<|CJ 0 rfl rfl<|HE (some ⟨b48,0,none⟩) tQ lE (λw f hM=>⟨f,(hM.more (B':=[]) (F':=[λw f=>AF w f (Pd p::Gz i) (some ⟨b48,0,none⟩)]) nE (AE.mem ⟨⟨b48,wa,wc,some ⟨b45,0,none⟩,1,ea,rfl,hM.b1,hM.f0,⟨Nat.le_refl _,.inr ⟨b45,0,rfl,hM.b0⟩⟩,hM.f3⟩,tQ⟩) (Aw.mem ⟨AF.mono,tQ⟩)).less (sD sZ) sR nE (mR [3,0])⟩)));refine Af rfl ?_ Aj;refine Br rfl rfl (eC GH rfl rfl) (λw f hM=>DA w f hM.vl (0-1)) (λx=>trivial) ?_;rintro⟨⟩ -;refine Aa 1 [] (λ_=>AW [1] (λw f h _=>h.blk) rfl (λ_ h=>h)<|Af rfl ?_ ?_);refine Aa 2 [] (λb49=>λ_=>AW [2] (λw f h _=>h.blk) rfl (λ_ h=>h)<|Af rfl ?_ Aj);refine Aa 2 [] (λb50=>λ_=>AW [3] (λw f h _=>h.blk) rfl (λ_ h=>h)<|Af rfl ?_ Aj);refine CJ 1 rfl rfl<|CJ 0 rfl rfl<|Br (α:=Option Addr×Nat) rfl rfl (eC Df rfl rfl) (λw f hM=>B5 w f hM.vl [1] (some ⟨b49,0,none⟩) 1 (T1.var (0-1)).one (some ⟨b50,0,none⟩) 1 dC dC tQ ⟨Nat.le_refl _,.inr ⟨b49,0,rfl,hM.b1⟩⟩ (CL (l:=[(.var (0-1),none,0)]) ⟨Al.nil _ _ _ _,tQ⟩ hM.b0) p.2.2 qa qc hpb hM.f0) (λ_=>⟨Al.mono,tQ⟩) ?_;rintro⟨wa,wc⟩ -;refine Aa 1 [] (λ_=>AW [1] (λw f h _=>h.blk) rfl (λ_ h=>.tail _ (.tail _ h))<|A1 2 [] (λ_=>Af rfl ?_ Aj));exact Aa 2 [] (λb51=>λ_=>AW [2] (λw f h _=>h.blk) rfl (λ_ h=>.tail _ (.tail _ h))<|A1 1 [] (λ_=>Bf<|CJ 0 rfl rfl<|CJ 0 rfl rfl<|HE (some ⟨b51,0,none⟩) tQ lE (λw f hM=>⟨f,(hM.more (B':=[]) (F':=[λw f=>AF w f (Pd p::Gz i) (some ⟨b51,0,none⟩)]) nE (AE.mem ⟨⟨b51,wa,wc,some ⟨b45,0,none⟩,1,ea,rfl,hM.b1,hM.f0,⟨Nat.le_refl _,.inr ⟨b45,0,rfl,hM.b0⟩⟩,hM.f3⟩,tQ⟩) (Aw.mem ⟨AF.mono,tQ⟩)).less (sD sZ) sR nE (mR [3,0])⟩)));refine Af rfl ?_ Aj;refine Aa 2 [] (λb52=>λ_=>AW [2] (λw f h _=>h.blk) rfl (λ_ h=>h)<|Af rfl ?_ Aj);refine Aa 2 [] (λb53=>λ_=>AW [3] (λw f h _=>h.blk) rfl (λ_ h=>h)<|Af rfl ?_ Aj)
 refine CJ 0 rfl rfl<|CJ 0 rfl rfl<|Br (α:=Option Addr×Nat) rfl rfl (eC Df rfl rfl) (λw f hM=>B5 w f hM.vl [1] (some ⟨b53,0,none⟩) 1 (T1.var (0-1)).one (some ⟨b52,0,none⟩) 1 dC dC tQ ⟨Nat.le_refl _,.inr ⟨b53,0,rfl,hM.b1⟩⟩ (CL (l:=[(.var (0-1),none,0)]) ⟨Al.nil _ _ _ _,tQ⟩ hM.b0) p.2.2 qa qc hpb hM.f0) (λ_=>⟨Al.mono,tQ⟩) ?_;rintro⟨wa,wc⟩ -;refine Aa 1 [] (λ_=>AW [1] (λw f h _=>h.blk) rfl (λ_ h=>.tail _ (.tail _ h))<|A1 2 [] (λ_=>Af rfl ?_ Aj));exact Aa 2 [] (λb54=>λ_=>AW [2] (λw f h _=>h.blk) rfl (λ_ h=>.tail _ (.tail _ h))<|A1 1 [] (λ_=>Bf<|CJ 0 rfl rfl<|CJ 0 rfl rfl<|HE (some ⟨b54,0,none⟩) tQ lE (λw f hM=>⟨f,(hM.more (B':=[]) (F':=[λw f=>AF w f (Pd p::Gz i) (some ⟨b54,0,none⟩)]) nE (AE.mem ⟨⟨b54,wa,wc,some ⟨b45,0,none⟩,1,ea,rfl,hM.b1,hM.f0,⟨Nat.le_refl _,.inr ⟨b45,0,rfl,hM.b0⟩⟩,hM.f3⟩,tQ⟩) (Aw.mem ⟨AF.mono,tQ⟩)).less (sD sZ) sR nE (mR [3,0])⟩)));rintro ea2 -;dsimp only;exact Aa 6 [] (aI ⟨oM,oM⟩<|λ_=>CY ((i+1,ea2)) (show Cc.length-(i+1)<Cc.length-i by omega) (show i+1≤_ by omega) lE (λw f hM=>⟨_,by dsimp only;rw[WD hx];exact hM⟩));refine Aa 3 [] (λ_=>EH<|Aa 11 [] (λ_=>?_));obtain rfl:i=Cc.length:=by have:=of_decide_eq_false h3;omega
 exact AL (λw f hM=>Ch rfl (Ah rfl) (Ah rfl)) (λw f hM=>⟨(A,ea),f,rfl,hA,hM.exm,(λb hb=>let ⟨h1,h2,h3⟩:=hM.mi b hb;h3.elim (λh=>.inr ⟨h,h1,h2⟩) .inl),hM.res,⟨QU▸hM.f1,tQ⟩⟩)
theorem Rd(w:World)(c2 c3 c4:Nat) :
  CallsD prog 21 [pB c2,pB c3,pB c4].toArray .returning w λr m w'=>∃x,r=.returned x∧m=.returning∧AR w w':=by
 refine Dl (R:=λw'=>AR w w') func21 rfl rfl rfl rfl N9<|(?_:A3 prog _ (Fj prog _ (λ_ w'=>AR w w') λ_ _=>False) [] (X0 w (λ_=>0)) [] [] [] (.code _) [] _ []) w (λ_=>0) (BS (λ_ _=>rfl) tQ tQ);exact Aa 3 [] (λ_=>D6 rfl rfl (λw f hM=>Pb OW rfl)<|Aa 7 [] (λ_=>dX (λw f hM=>D0 rfl) (λw f hM=>hM.exm.stp.ext)))
theorem Uk(w:World)(f:Fq)(hv:Vl w f)(c2 c3 c4:Nat)(v2 x3 y3 v4:Value)(hc2:AI w c2 [v2] 49)(hc3:AI w c3 [x3,y3] 27)(hc4:AI w c4 [v4] 28)(hf:f c2=0∧f c3=0∧f c4=0)(hn:c2≠c3∧c2≠c4∧c3≠c4)(er:Er) :
  CallsD prog 21 [pB c2,pB c3,pB c4].toArray (.panicking (trI 67 er)) w λr m w'=>∃x,r=.returned x∧m=.panicking [{v:=.iface 67 (.agg #[iV er.1,iV er.2.1,iV er.2.2]),recovered:=true}]∧(∃f',C2 (λb=>b=c2∨b=c3∨b=c4) w f w' f'∧AI w' c2 [.slice none 0 0] 49∧AI w' c3 [iV er.1,iV er.2.1] 27∧AI w' c4 [iV er.2.2] 28):=by
 refine Dl (R:=λw'=>∃f',C2 (λb=>b=c2∨b=c3∨b=c4) w f w' f'∧AI w' c2 [.slice none 0 0] 49∧AI w' c3 [iV er.1,iV er.2.1] 27∧AI w' c4 [iV er.2.2] 28) func21 rfl rfl rfl rfl PN<|(?_:A3 prog _ (Fj prog _ (λ_ w'=>∃f',C2 (λb=>b=c2∨b=c3∨b=c4) w f w' f'∧AI w' c2 [.slice none 0 0] 49∧AI w' c3 [iV er.1,iV er.2.1] 27∧AI w' c4 [iV er.2.2] 28) λ_ _=>False) [] ⟨λb=>b=c2∨b=c3∨b=c4,λ_=>False,λ_ _=>True,w,f⟩ [] [] [] (.code _) [] _ [⟨c2,[v2],49,false⟩,⟨c3,[x3,y3],27,false⟩,⟨c4,[v4],28,false⟩]) w f (fI hv hc2 hc3 hc4 hf hn);refine Aa 3 [] (λ_=>D6 rfl rfl (λw f hM=>Qg OW rfl)<|Aa 5 [] (λ_=>D6 rfl rfl (λw f hM=>Uc rfl iS)<|Aa 11 [0] (λb1=>y<|λ_=>Cv [0] Ak (rd [0,1,2,3] (.br 4 (.br 5 (.br 6 .fin .fin) .fin) .fin)) rfl kR<|A1 4 [0,0] (y<|y<|λ_=>Af rfl ?_ Aj))));refine Aa 2 [1] (y<|λ_=>Au [0] rfl<|Af rfl ?_ Aj);refine Aa 2 [2] (y<|λ_=>Au [0] rfl<|Af rfl ?_ Aj);exact Aa 2 [3] (y<|λ_=>Au [0] rfl<|Bf<|Aa 1 [] (λ_=>dX (λw f hM=>D0 rfl) (λw f hM=>⟨f,hM.exm,hM.blk _ gU,hM.blk _ UZ,hM.blk _ UK⟩)))
end Go.Proofs.YtelmolopaolbcaaGreatDoor
namespace Go.SP
open Go.SW Go.RowKit
def Nd.wft:Nd→Prop
 |.nil=>True
 |.cons op _ _ _ _ k r=>(op=41∨(op=43∧k.wfm 2)∨((op=44∨op=45∨op=46)∧k.wfm 3))∧r.wft
def Fw:List (lU×T1)→Ty
 | []=>.nil
 |b::l=>b.2.cons (Fw l)
theorem DQ(b:lU×T1):∀l:List (lU×T1),Fw (l++[b])=(Fw l).snoc b.2
 | []=>by simp[Fw,Ty.snoc,Ty.app,T1.one]
 |c::l=>by
   simp only[List.cons_append,Fw,DQ b l]
   cases c.2 <;> rfl
def bC:List (lU×lU)→List Value
 | []=>[]
 |b::l=>S b.1::S b.2::bC l
theorem bC_app:∀a b:List (lU×lU),bC (a++b)=bC a++bC b
 | [],_=>rfl
 |x::a,b=>by simp only[List.cons_append,bC,bC_app a b]
theorem bC_len:∀a:List (lU×lU),(bC a).length=a.length*2
 | []=>rfl
 |x::a=>by simp only[bC,List.length_cons,bC_len a];omega
abbrev Tw(l:List (lU×T1)):List (lU×lU):=l.map λb=>(b.1,[])
section
variable{s s1:CS}{e e1:Bb}{op ln co nm:Int}{tx:lU}{k r:Nd}{out:List (lU×T1)}{er:Er}
theorem Uo(h:Dq s e op ln co tx k=.ok (none,e1,s1)):Ec s e (.cons op ln co tx nm k r) out=Ec s1 e1 r out:=by rw[Ec,h]
theorem HY{b:lU×T1}(h:Dq s e op ln co tx k=.ok (some b,e1,s1)):Ec s e (.cons op ln co tx nm k r) out=Ec s1 e1 r (out++[b]):=by rw[Ec,h]
theorem Dx(h:Dq s e op ln co tx k=.error er):Ec s e (.cons op ln co tx nm k r) out=.error er:=by rw[Ec,h]
end
structure tR(Rl:CS→CS→Prop):Prop where
 refl:∀s,Rl s s
 trans:∀{s t u},Rl s t→Rl t u→Rl s u
 fresh:∀s,Rl s (A7 s).2
 has:∀{s a b ln co s'},EP s a b ln co=.ok s'→Rl s s'
section
variable{Rl:CS→CS→Prop}(hR:tR Rl)
include hR
theorem ND:∀(l:List Int)(s:CS),Rl s (Bq l s).2
 | [],s=>hR.refl s
 |_::l,s=>hR.trans (hR.fresh s) (ND l _)
variable {s s':CS}{co ln:Int}{k n:Nat}
theorem RD{tx:lU}{a:Ty}{o:T1}(h:Ij s tx k ln co=.ok (a,o,s')):Rl s s':=by
 unfold Ij at h
 split at h
 · cases h
 · split at h
   · cases h
     exact ND hR _ _
   · cases h
theorem YP{e:Bb}{tx:lU}{t:T1}(h:GZ s e tx ln co=.ok (t,s')):Rl s s':=by
 unfold GZ at h
 split at h
 · cases h
 · split at h
   · cases h
   · cases h
     exact ND hR _ _
def qD(Rl:CS→CS→Prop)(p:LA):Prop:=∀{s e op ln co tx nm k t s'},p s e op ln co tx nm k=.ok (t,s')→Rl s s'
def tB(Rl:CS→CS→Prop)(p:Mj):Prop:=∀{s e op ln co tx nm k t e' s'},p s e op ln co tx nm k=.ok (t,e',s')→Rl s s'
variable{p:LA}(hp:qD Rl p)
include hp
theorem MT{e:Bb}:∀(k:Nd){s s':CS}{l:Ty},Ea p e s k=.ok (l,s')→Rl s s'
 |.nil,_,_,_,h=>by cases h;exact hR.refl _
 |.cons op ln co tx nm k r,s,s',l,h=>by
   unfold Ea at h
   split at h
   · cases h
   · rename_i h1
     split at h
     · cases h
     · rename_i h2
       cases h
       exact hR.trans (hp h1) (MT r h2)
theorem RU{e:Bb}:∀(k:Nd){s s':CS}{l:Ty},FY p e s l k=.ok s'→Rl s s'
 |.nil,_,_,_,h=>by cases h;exact hR.refl _
 |.cons op ln co tx nm k r,s,s',l,h=>by
   unfold FY at h
   split at h
   · cases h
   · rename_i h1
     split at h
     · cases h
     · rename_i h2
       exact hR.trans (hp h1) (hR.trans (hR.has h2) (RU r h))
theorem UD{e:Bb}:∀(k:Nd){s s':CS}{t t':T1},J6 p e s t k=.ok (t',s')→Rl s s'
 |.nil,_,_,_,_,h=>by cases h;exact hR.refl _
 |.cons op ln co tx nm k r,s,s',t,t',h=>by
   unfold J6 at h
   split at h
   · cases h
   · rename_i h1
     split at h
     · cases h
     · rename_i h2
       exact hR.trans (hp h1) (hR.trans (hR.fresh _) (hR.trans (hR.has h2) (UD r h)))
theorem P6{e:Bb}{o l c m:Int}{tx x:lU}{k:Nd}{t:T1}(h:GQ p s e ln co tx o l c x m k=.ok (t,s')):Rl s s':=by
 unfold GQ at h
 split at h
 · cases h
 · rename_i h1
   split at h
   · cases h
   · rename_i h2
     cases h
     exact hR.trans (hR.fresh _) (hR.trans (hp h1) (hR.has h2))
omit hp
theorem Sc:∀(k:Nd){s:CS}{e:Bb},Rl s (Fc s e k).2.2
 |.nil,_,_=>hR.refl _
 |.cons _ _ _ _ _ _ .nil,_,_=>hR.refl _
 |.cons _ _ _ _ _ _ (.cons o l c x m k r),_,_=>hR.trans (hR.fresh _) (Sc (.cons o l c x m k r))
variable{q:Mj}(hq:tB Rl q)
include hq
theorem Ow:∀(k:Nd){s s':CS}{e e':Bb}{l:Ty},FZ q s e l k=.ok (e',s')→Rl s s'
 |.nil,_,_,_,_,_,h=>by cases h;exact hR.refl _
 |.cons op ln co tx nm k r,s,s',e,e',l,h=>by
   unfold FZ at h
   split at h
   · cases h
   · rename_i h1
     split at h
     · cases h
     · rename_i h2
       exact hR.trans (hq h1) (hR.trans (hR.has h2) (Ow r h))
theorem Oh:∀(k:Nd){s s':CS}{e e':Bb}{l:Ty},Fb q s e k=.ok (l,e',s')→Rl s s'
 |.nil,_,_,_,_,_,h=>by cases h;exact hR.refl _
 |.cons op ln co tx nm k r,s,s',e,e',l,h=>by
   unfold Fb at h
   split at h
   · cases h
   · rename_i h1
     split at h
     · cases h
     · rename_i h2
       cases h
       exact hR.trans (hq h1) (Oh r h2)
theorem Y0{e e':Bb}{op:Int}{tx:lU}{k:Nd}{t:T1}(h:CV q s e op ln co tx k=.ok (t,e',s')):Rl s s':=by
 unfold CV at h
 repeat' (split at h)
 all_goals first|(cases h;first|exact hR.refl _|exact hR.fresh _|exact hR.trans (RD hR (by assumption)) (Ow hR hq _ (by assumption))|exact Oh hR hq _ (by assumption))|cases h
omit hq
theorem UE:∀n,tB Rl (Cm n)
 |0=>λh=>by cases h
 |n+1=>λh=>by
   unfold Cm at h
   split at h
   · cases h
   · rename_i h1
     split at h
     · cases h
     · cases h
       exact Y0 hR (UE n) h1
include hp
theorem K6{e:Bb}{pt:T1}:∀(k:Nd){s s':CS}{t:Option T1}{u:T1},Dw n p e pt s t k=.ok (u,s')→Rl s s'
 |.nil,_,_,_,_,h=>by unfold Dw at h;cases h;exact hR.refl _
 |.cons _ _ _ _ _ ks r,s,s',t,u,h=>by
   unfold Dw at h
   split at h
   · split at h
     · cases h
     · rename_i h1
       split at h
       · cases h
       · rename_i h2
         split at h
         · cases h
         · rename_i h3
           refine hR.trans (UE hR _ h1) (hR.trans (hR.has h2) (hR.trans (hp h3) ?_))
           split at h
           · split at h
             · cases h
             · rename_i h4
               exact hR.trans (hR.has h4) (K6 r h)
           · exact K6 r h
   · cases h
     exact hR.refl _
theorem Ys{e:Bb}{op:Int}{tx:lU}{k:Nd}{t:T1}(h:Bi n p s e op ln co tx k=.ok (t,s')):Rl s s':=by
 have tr:=@tR.trans _ hR;have hs:=@tR.has _ hR;unfold Bi at h
 by_cases o1:(op==1)=true
 · rw[if_pos o1] at h
   cases h;exact hR.refl _
 rw[if_neg o1] at h
 by_cases o2:(op==2)=true
 · rw[if_pos o2] at h
   cases h;exact hR.refl _
 rw[if_neg o2] at h
 by_cases o3:(op==3)=true
 · rw[if_pos o3] at h
   cases h;exact hR.refl _
 rw[if_neg o3] at h
 by_cases o4:(op==4)=true
 · rw[if_pos o4] at h
   cases h;exact hR.refl _
 rw[if_neg o4] at h
 by_cases o5:(op==5)=true
 · rw[if_pos o5] at h
   exact YP hR h
 rw[if_neg o5] at h
 by_cases o6:(op==6)=true
 · rw[if_pos o6] at h
   split at h
   · cases h
   rename_i h1
   split at h
   · cases h
   rename_i h2
   cases h
   exact tr (RD hR h1) (RU hR hp _ h2)
 rw[if_neg o6] at h
 by_cases o7:(op==7)=true
 · rw[if_pos o7] at h
   split at h
   · cases h
     exact hR.refl _
   simp only at h
   split at h
   · cases h
   rename_i h1
   cases h
   exact tr (Sc hR _) (hp h1)
 rw[if_neg o7] at h
 by_cases o8:(op==8)=true
 · rw[if_pos o8] at h
   split at h
   · cases h
     exact hR.refl _
   split at h
   · cases h
   rename_i h1;exact tr (hp h1) (UD hR hp _ h)
 rw[if_neg o8] at h
 by_cases o9:(op==9)=true
 · rw[if_pos o9] at h
   split at h
   · split at h
     · cases h
     rename_i h1
     split at h
     · cases h
     exact tr (hp h1) (hp h)
   · cases h
     exact hR.refl _
 rw[if_neg o9] at h
 by_cases o10:(op==10)=true
 · rw[if_pos o10] at h
   split at h
   · split at h
     · cases h
     rename_i h1
     split at h
     · cases h
     exact tr (P6 hR hp h1) (hp h)
   · cases h
     exact hR.refl _
 rw[if_neg o10] at h
 by_cases o11:(op==11)=true
 · rw[if_pos o11] at h
   split at h
   · split at h
     · cases h
     rename_i h1
     split at h
     · cases h
     rename_i h2
     split at h
     · cases h
     rename_i h3
     split at h
     · cases h
     rename_i h4
     split at h
     · cases h
     rename_i h5
     cases h
     exact tr (hp h1) (tr (hs h2) (tr (hp h3) (tr (hp h4) (hs h5))))
   · cases h
     exact hR.refl _
 rw[if_neg o11] at h
 by_cases o12:(op==12)=true
 · rw[if_pos o12] at h
   split at h
   · cases h
   rename_i h1
   cases h
   exact MT hR hp _ h1
 rw[if_neg o12] at h
 by_cases o13:(op==13)=true
 · rw[if_pos o13] at h
   split at h
   · cases h
   rename_i h1
   cases h
   exact MT hR hp _ h1
 rw[if_neg o13] at h
 by_cases o14:(op==14)=true
 · rw[if_pos o14] at h
   split at h
   · cases h
     exact hR.refl _
   split at h
   · cases h
   rename_i h1;exact tr (hp h1) (K6 hR hp _ h)
 rw[if_neg o14] at h
 by_cases o15:(op==15)=true
 · rw[if_pos o15] at h
   split at h
   · cases h
     exact hR.refl _
   split at h
   · cases h
   rename_i h1;exact tr (hp h1) (K6 hR hp _ h)
 rw[if_neg o15] at h
 by_cases o16:(op==16)=true
 · rw[if_pos o16] at h
   split at h
   · cases h
     exact hR.refl _
   split at h
   · cases h
   rename_i h1
   split at h
   · cases h
   rename_i h2
   cases h
   exact tr (hp h1) (tr (hs h2) (hR.fresh _))
 rw[if_neg o16] at h
 split at h
 · cases h
   exact hR.refl _
 exact hp h
omit hp
theorem Ge:∀n,qD Rl (Cb n)
 |0=>λh=>by cases h
 |n+1=>λh=>by
   unfold Cb at h
   split at h
   · cases h
   · rename_i h1
     split at h
     · cases h
     · cases h
       exact Ys hR (Ge n) h1
end
def xH(s s':CS):Prop:=s'.cons=s.cons∧s'.datas=s.datas∧s'.roots=s.roots∧s'.vars=s.vars
variable {s s':CS}{co ln:Int}
theorem bJ{a b:T1}(h:EP s a b ln co=.ok s'):∃m,FT s.sol a b=.ok m∧s'={s with sol:=m}:=by
 unfold EP at h
 split at h
 · cases h
 · cases h
   exact⟨_,by assumption,rfl⟩
theorem Ef:tR xH where
 refl _:=⟨rfl,rfl,rfl,rfl⟩
 trans h1 h2:=⟨h2.1.trans h1.1,h2.2.1.trans h1.2.1,h2.2.2.1.trans h1.2.2.1,h2.2.2.2.trans h1.2.2.2⟩
 fresh _:=⟨rfl,rfl,rfl,rfl⟩
 has h:=by obtain⟨m,-,rfl⟩:=bJ h;exact⟨rfl,rfl,rfl,rfl⟩
section
variable{s s1 s2:CS}{e e1:Bb}{op ln co nm o l c m o2 l2 c2 m2:Int}{tx x x2:lU}{kids k r k2 r2:Nd}{t q:T1}{er:Er}
theorem VT(h:(op==41)=true)(hd:G3 s ln co tx kids=.ok s1):Dq s e op ln co tx kids=.ok (none,e,s1):=by unfold Dq;rw[if_pos h,hd]
theorem T0(h:(op==41)=true)(hd:G3 s ln co tx kids=.error er):Dq s e op ln co tx kids=.error er:=by unfold Dq;rw[if_pos h,hd]
theorem X3(h:(op==44)=true)(hx:Cb (k.size+1) s e o l c x m k=.ok (t,s1))(hw:GA s1 e tx t (Cq (k.size+1) o k) ln co=.ok e1):Dq s e op ln co tx (.cons o l c x m k r)=.ok (some (tx,t),e1,s1):=by
 obtain rfl:=beq_iff_eq.1 h;unfold Dq;rw[if_neg (by decide)];simp only;rw[if_neg (by decide),if_pos (by decide),hx];simp only;rw[hw]
theorem Wg(h:(op==44)=true)(hx:Cb (k.size+1) s e o l c x m k=.error er):Dq s e op ln co tx (.cons o l c x m k r)=.error er:=by
 obtain rfl:=beq_iff_eq.1 h;unfold Dq;rw[if_neg (by decide)];simp only;rw[if_neg (by decide),if_pos (by decide),hx]
theorem Wy(h:(op==44)=true)(hx:Cb (k.size+1) s e o l c x m k=.ok (t,s1))(hw:GA s1 e tx t (Cq (k.size+1) o k) ln co=.error er):Dq s e op ln co tx (.cons o l c x m k r)=.error er:=by
 obtain rfl:=beq_iff_eq.1 h;unfold Dq;rw[if_neg (by decide)];simp only;rw[if_neg (by decide),if_pos (by decide),hx];simp only;rw[hw]
theorem Z5(h:(op==45)=true)(hx:GQ (Cb (k.size+1)) s e ln co tx o l c x m k=.ok (t,s1))(hw:GA s1 e tx t true ln co=.ok e1):Dq s e op ln co tx (.cons o l c x m k r)=.ok (some (tx,t),e1,s1):=by
 obtain rfl:=beq_iff_eq.1 h;unfold Dq;rw[if_neg (by decide)];simp only;rw[if_neg (by decide),if_neg (by decide),if_pos (by decide),hx];simp only;rw[hw]
theorem Wi(h:(op==45)=true)(hx:GQ (Cb (k.size+1)) s e ln co tx o l c x m k=.error er):Dq s e op ln co tx (.cons o l c x m k r)=.error er:=by
 obtain rfl:=beq_iff_eq.1 h;unfold Dq;rw[if_neg (by decide)];simp only;rw[if_neg (by decide),if_neg (by decide),if_pos (by decide),hx]
theorem Wj(h:(op==45)=true)(hx:GQ (Cb (k.size+1)) s e ln co tx o l c x m k=.ok (t,s1))(hw:GA s1 e tx t true ln co=.error er):Dq s e op ln co tx (.cons o l c x m k r)=.error er:=by
 obtain rfl:=beq_iff_eq.1 h;unfold Dq;rw[if_neg (by decide)];simp only;rw[if_neg (by decide),if_neg (by decide),if_pos (by decide),hx];simp only;rw[hw]
theorem cB(h:(op==46)=true)(hx:Cb (k.size+1) s e o l c x m k=.ok (t,s1)):Dq s e op ln co tx (.cons o l c x m k r)=.ok (some ([],t),e,s1):=by
 obtain rfl:=beq_iff_eq.1 h;unfold Dq;rw[if_neg (by decide)];simp only;rw[if_neg (by decide),if_neg (by decide),if_neg (by decide),hx]
theorem Xf(h:(op==46)=true)(hx:Cb (k.size+1) s e o l c x m k=.error er):Dq s e op ln co tx (.cons o l c x m k r)=.error er:=by
 obtain rfl:=beq_iff_eq.1 h;unfold Dq;rw[if_neg (by decide)];simp only;rw[if_neg (by decide),if_neg (by decide),if_neg (by decide),hx]
theorem Nh(h:CD s.datas [] o l c x k=.ok q):FR s.datas [] (.cons o l c x m k .nil)=.ok q.one:=by
 rw[Ju,h];simp only[FR];cases q <;> rfl
theorem SO(h:(op==43)=true)(hr:s.roots.contains tx=true):Dq s e op ln co tx (.cons o l c x m k r)=.error (ln,co,11):=by
 obtain rfl:=beq_iff_eq.1 h;unfold Dq;rw[if_neg (by decide)];simp only;rw[if_pos (by decide),if_pos hr]
theorem SL(h:(op==43)=true)(hr:s.roots.contains tx=false)(ht:CD s.datas [] o l c x k=.error er):Dq s e op ln co tx (.cons o l c x m k r)=.error er:=by
 obtain rfl:=beq_iff_eq.1 h;unfold Dq;rw[if_neg (by decide)];simp only;rw[if_pos (by decide),if_neg (by rw[hr];decide),IV ht]
theorem SH(h:(op==43)=true)(hr:s.roots.contains tx=false)(ht:CD s.datas [] o l c x k=.ok q)(hx:Cb (k2.size+1) {s with roots:=tx::s.roots} e o2 l2 c2 x2 m2 k2=.error er):Dq s e op ln co tx (.cons o l c x m k (.cons o2 l2 c2 x2 m2 k2 r2))=.error er:=by
 obtain rfl:=beq_iff_eq.1 h;unfold Dq;rw[if_neg (by decide)];simp only;rw[if_pos (by decide),if_neg (by rw[hr];decide),Nh ht];simp only;rw[hx]
theorem Th(h:(op==43)=true)(hr:s.roots.contains tx=false)(ht:CD s.datas [] o l c x k=.ok q)(hx:Cb (k2.size+1) {s with roots:=tx::s.roots} e o2 l2 c2 x2 m2 k2=.ok (t,s1))(hh:EP s1 q t ln co=.error er):Dq s e op ln co tx (.cons o l c x m k (.cons o2 l2 c2 x2 m2 k2 r2))=.error er:=by
 obtain rfl:=beq_iff_eq.1 h;unfold Dq;rw[if_neg (by decide)];simp only;rw[if_pos (by decide),if_neg (by rw[hr];decide),Nh ht];simp only;rw[hx];simp only;rw[show q.one.hd=q by cases q <;> rfl,hh]
theorem Vs(h:(op==43)=true)(hr:s.roots.contains tx=false)(ht:CD s.datas [] o l c x k=.ok q)(hx:Cb (k2.size+1) {s with roots:=tx::s.roots} e o2 l2 c2 x2 m2 k2=.ok (t,s1))(hh:EP s1 q t ln co=.ok s2) :
   Dq s e op ln co tx (.cons o l c x m k (.cons o2 l2 c2 x2 m2 k2 r2))=.ok (some (tx,.con CK q.one),⟨tx,.con CK q.one,[]⟩::e,s2):=by
 obtain rfl:=beq_iff_eq.1 h;unfold Dq;rw[if_neg (by decide)];simp only;rw[if_pos (by decide),if_neg (by rw[hr];decide),Nh ht];simp only;rw[hx];simp only;rw[show q.one.hd=q by cases q <;> rfl,hh]
end
def DI(w:World)(f:Fq)(l:List (lU×lU))(a:Option Addr)(c:Nat):Prop:=l.length≤c∧(l=[]∨∃b off,a=some ⟨b,off,none⟩∧Cs w f b off (bC l))
variable {X:Cx}{f:Fq}{Fs:List (World→Fq→Prop)}{B:List FB}{H:List HB}{a:Option Addr}{T:TypeId}{w:World}
theorem DI.mono{l:List (lU×lU)}{c:Nat}:EY (λw f=>DI w f l a c):=λ_ _ _ _ h hF=>⟨h.1,h.2.imp id λ⟨b,off,h1,h2⟩=>⟨b,off,h1,h2.mono hF⟩⟩
def VH(nds:Nd)(w:World)(f:Fq)(v:Value)(w':World):Prop:=∃f',C2 (λ_=>False) w f w' f' ∧
 match CA nds with
 |.error er=>v=.tuple #[.slice none 0 0,.agg #[.int .i64 er.1,.int .i64 er.2.1],.int .i64 er.2.2]
 |.ok bs=>∃a c,v=.tuple #[.slice a bs.length c,.agg #[.int .i64 0,.int .i64 0],.int .i64 0]∧DI w' f' bs a c
def P4(l:List (lU×lU))(r:List (lU×T1)):List (lU×lU):=l++Tw r
theorem Wf{s:CS}{n:lU}{t f:T1}{r:List (lU×T1)}{d:List (lU×lU)}(h:G1 s t 0 0=.ok f) :
   (match JO s ((n,t)::r) with|.error x=>.error x|.ok l=>.ok (d++l):RI (List (lU×lU)))=(match JO s r with|.error x=>.error x|.ok l=>.ok ((d++[(n,O5 f)])++l)):=by
 rw[JO,h];simp only
 cases JO s r with
 |error x=>rfl
 |ok z=>simp
theorem SK{s:CS}{r:List (lU×T1)}:JO s r=(match JO s r with|.error x=>.error x|.ok l=>.ok ([]++l)):=by
 cases JO s r <;> rfl
theorem Xd{s:CS}{n:lU}{t:T1}{r:List (lU×T1)}{er:Er}(h:G1 s t 0 0=.error er):JO s ((n,t)::r)=.error er:=by rw[JO,h]
theorem VW{d:List (lU×lU)}{n y:lU}{t:T1}{r:List (lU×T1)}:DU (bC (P4 d ((n,t)::r))) (d.length*2+1) [S y]=bC (P4 (d++[(n,y)]) r):=by
 unfold P4;rw[bC_app,bC_app,bC_app];have hl:=bC_len d;rw[← hl];generalize bC d=D;simp[DU,Tw,bC,List.set_append_right]
theorem QK{a:lU}:∀l:List lU,(Em (l.map λk=>(k,Value.bool true)) a).getD (.bool false)=.bool (l.contains a)
 | []=>rfl
 |b::l=>by
   simp only[List.map_cons,Em,List.contains_cons]
   by_cases h:a=b
   · subst h;simp
   · rw[show (a==b)=false from beq_eq_false_iff_ne.2 h]
     simpa using QK l
theorem Dy.addRoot{s:CS}(h:Dy s){a:lU}(hn:s.roots.contains a=false):Dy {s with roots:=a::s.roots} :=
 {h with
   dr:=⟨by
     have:∀l:List lU,l.contains a=false→Em (l.map λk=>(k,Value.bool true)) a=none:=by
       intro l
       induction l with
       |nil=>intro _;rfl
       |cons b l ih =>
         intro hc;rw[List.contains_cons,Bool.or_eq_false_iff] at hc;simp only[List.map_cons,Em];rw[hc.1];simpa using ih hc.2
     exact this _ hn,h.dr⟩}
theorem Fx{nds:Nd}{er:Er}(h:Ec aG Pq nds []=.error er):CA nds=.error er:=by rw[CA,h]
theorem lW{nds:Nd}{out:List (lU×T1)}{s:CS}(h:Ec aG Pq nds []=.ok (out,s)):CA nds=JO s out:=by rw[CA,h]
theorem Pe{R:List RB}{c:Nat}{l:List (lU×lU)}(hM:AO X w f H (⟨T,2,a,c,l.length,bC l⟩::R) B Fs):∃f',AO X w f' H R B Fs∧DI w f' l a c:=by
 have hr:=hM.row _ (.head _);rcases hr.2 with ⟨_,_,hz⟩|⟨b,q,ha,hb,hmc,_,hq,ht⟩
 · simp only at hz
   exact⟨f,hM.less (List.Sublist.refl _) (List.sublist_cons_self _ _) (λ_ h=>h) (λ_ h=>h),oM,.inl (by cases l with|nil=>rfl|cons _ _=>simp at hz)⟩
 · simp only at ha
   subst ha;obtain⟨f',hM'⟩:=hM.done (i:=0) rfl rfl;refine⟨f',hM'.less (List.Sublist.refl _) (List.Sublist.refl _) (λ_ h=>.tail _ h) (λ_ h=>h),hmc,.inr ⟨b,0,rfl,hM'.fro _ (.head _)⟩⟩
end Go.SP
namespace Go.Proofs.YtelmolopaolbcaaGreatDoor
open Go.SW Go.SP Go.RowKit Go.Proofs.Tryz
theorem Yp:∀i,i≤8→Dy (⟨[],0,WM i,[],[],-1⟩:CS)
 |0,_=>⟨tQ,λ_ _ h=>(by cases h),tQ,tQ,tQ,Int.le_refl _⟩
 |i+1,h=>by
  obtain⟨⟨nm,dt,nu,ar⟩,hx⟩:∃v,Hp[i]?=some v:=⟨_,List.getElem?_eq_getElem (l:=Hp) (by have:Hp.length=8:=rfl;omega)⟩;have har:=Sq hx;rw[Np hx];exact (Yp i oM).addCons (Mc i oM _ hx) ⟨by rw[KF];dsimp only;omega,NJ _,CF (R7 hx),Nat.zero_le _⟩
theorem uK:Dy aG:=Yp 8 (Nat.le_refl _)
theorem rY:F9 Pq:=by
 rw[← QU];intro b hb;unfold Gz at hb;rw[List.take_length,List.mem_reverse] at hb;obtain⟨p,hp,rfl⟩:=List.mem_map.1 hb;exact⟨ID (Gf (Bw _)) (NK p hp),by dsimp only[Pd];decide⟩
theorem WE(w:World)(f:Fq)(hv:Vl w f)(tx:lU)(t:T1)(b:Nat)(hT:Al w f t.one (some ⟨b,0,none⟩) 1) :
  Bo prog 28 #[S tx,.slice (some ⟨b,0,none⟩) 1 1] w (Bx (α:=Option Addr×Nat) (λx=>tV (.con tx t.one) x.1 x.2) (λ_=>True) (λx=>[λw f=>Al w f t.one x.1 x.2]) w f):=by
 have hl:t.one.len=1:=by cases t <;> rfl
 have h:=C9 w f hv tx t.one (some ⟨b,0,none⟩) 1 (by rw[hl];decide) hT;rwa[hl] at h
variable {σ:Ba}{f f':Fq}{a:Option Addr}{v2 v4 x3 y3:Value}{w w':World}
theorem LJ{nds:Nd}{b2 b3 b4:Nat}(hn:b2≠b3∧b2≠b4∧b3≠b4){fn:Func}(hr:fn.results=#[.cell 2 49,.cell 3 27,.cell 4 28])(h2:σ 2=some (pB b2))(h3:σ 3=some (pB b3))(h4:σ 4=some (pB b4)){er:Er}(hm:CA nds=.error er)(hE:C2 (λ_=>False) w f w' f')
  (k2:AI w' b2 [v2] 49∧f' b2=0∧(true=true→w.heap.size≤b2)) (k3:AI w' b3 [x3,y3] 27∧f' b3=0∧(true=true→w.heap.size≤b3)) (k4:AI w' b4 [v4] 28∧f' b4=0∧(true=true→w.heap.size≤b4))
  (tmps:Array Value) (ht:∀t,t∈[2,3,4]→∀v,σ t=some v→tmps.getD t undef=v):Leaves prog fn tmps (λe w'=>∃v,e=.returned v∧VH nds w f v w') [{target:=.fn (.func 21) ([pB b2,pB b3,pB b4]:List Value).toArray,args:=#[]}] (.panicking (trI 67 er)) w':=by
 refine Fg (by simp) Za (Uk w' f' hE.val b2 b3 b4 v2 x3 y3 v4 k2.1 k3.1 k4.1 ⟨k2.2.1,k3.2.1,k4.2.1⟩ hn er) λwz hz=>?_;rw[JW];obtain⟨f3,e3,z2,z3,z4⟩:=hz;refine BM (σ:=AA (E2 2 (pB b2) 3 (pB b3)) 4 (pB b4)) (λt v hv=>?_) (D3 hr (Bt rfl ZV z2 rfl) (Ac rfl Ex z3 rfl) (Bt rfl H0 z4 rfl)) ⟨_,rfl,f3,C2.trans0 hE e3 (λb hb=>?_),by rw[hm]⟩
 ·
  by_cases e4:t=4
  · subst e4;exact ht 4 (by simp) v (h4.trans hv)
  by_cases e5:t=3
  · subst e5;exact ht 3 (by simp) v (h3.trans hv)
  by_cases e2:t=2
  · subst e2;exact ht 2 (by simp) v (h2.trans hv)
  have n4:Nat.beq t 4=false:=by cases h:Nat.beq t 4 with|false=>rfl|true=>exact absurd (Nat.eq_of_beq_eq_true h) e4
  have n3:Nat.beq t 3=false:=by cases h:Nat.beq t 3 with|false=>rfl|true=>exact absurd (Nat.eq_of_beq_eq_true h) e5
  have n2:Nat.beq t 2=false:=by cases h:Nat.beq t 2 with|false=>rfl|true=>exact absurd (Nat.eq_of_beq_eq_true h) e2
  simp[AA,Go.SW.e0,n2,n3,n4] at hv
 ·
  rcases hb with rfl|rfl|rfl
  · exact k2.2.2 rfl
  · exact k3.2.2 rfl
  · exact k4.2.2 rfl
theorem qK{nds:Nd}{b2 b3 b4:Nat}{fn:Func}(hr:fn.results=#[.cell 2 49,.cell 3 27,.cell 4 28])(h2:σ 2=some (pB b2))(h3:σ 3=some (pB b3))(h4:σ 4=some (pB b4)){bs:List (lU×lU)}(hm:CA nds=.ok bs)(hE:C2 (λ_=>False) w f w' f'){c:Nat}(hB:DI w' f' bs a c)
  (k2:AI w' b2 [.slice a bs.length c] 49) (k3:AI w' b3 [iV 0,iV 0] 27) (k4:AI w' b4 [iV 0] 28)
  (tmps:Array Value) (ht:∀t v,σ t=some v→tmps.getD t undef=v):Leaves prog fn tmps (λe w'=>∃v,e=.returned v∧VH nds w f v w') [{target:=.fn (.func 21) ([pB b2,pB b3,pB b4]:List Value).toArray,args:=#[]}] .returning w':=by
 refine Fg (by simp) Za (Rd w' b2 b3 b4) λwz hz=>?_;have e3:=C2.of_ext hz hE.val;refine BM ht (D3 hr (Bt h2 ZV (k2.ext hz) rfl) (Ac h3 Ex (k3.ext hz) rfl) (Bt h4 H0 (k4.ext hz) rfl)) ⟨_,rfl,f',C2.trans0 hE e3 (λb hb=>hb.elim),?_⟩;rw[hm];exact⟨a,c,rfl,DI.mono _ _ _ _ hB (e3.fle hE.val (λ_ h=>h.elim))⟩
set_option maxHeartbeats 2000000 in
theorem Tu(w:World)(f:Fq)(hv:Vl w f)(hG:EE w f)(nds:Nd)(na:Option Addr)(nc:Nat)(hwt:nds.wft)(hsz:nds.size≤200000)(htb:nds.txb)(hN:AD w f nds na nc) :
  Bo prog 12 #[.slice na nds.len nc] w (VH nds w f):=by
 have hkl0:=Nd.len_le nds;refine oH (K:=[2,3,4]) (X:=X0 w f) (H:=[]) (R:=[]) (B:=[]) (Fs:=[λw f=>AD w f nds na nc,λw f=>EE w f]) (f:=f) func12 rfl rfl rfl (BS hv ⟨hN,hG,tQ⟩ ⟨AD.mono,EE.mono,tQ⟩)<|Aa 8 [] (λb1=>λb2=>λb3=>λ_=>Ig (p:=b1≠b2∧b1≠b3∧b2≠b3) (λw f hM=>by have h9:=hM.nd;simp[C8] at h9;exact⟨λe=>h9.2 e.symm,λe=>h9.1.2 e.symm,λe=>h9.1.1 e.symm⟩) λhn=>Aa 1 [] (λ_=>D6 rfl rfl (λw f hM=>Sv rfl)<|vU rfl rfl<|Aa 4 [] (λ_=>S5 (XX:=λ_ _=>False) rfl rfl (eC mV rfl rfl) (λw f hM=>(Tx w f hM.vl hM.f1).retP) (λ_=>As.stab) (λ_=>⟨AF.mono,tQ⟩) (λ_ _ _ _ _ h=>h.elim) ?_)));rintro⟨A,ea⟩ hA;dsimp only at hA ⊢;refine Aa 21 [] (λ_=>MD 91 2<|MD 76 4 ?_);refine EZ (α:=Nat×Nd×List (lU×T1)×List Value×Option Addr×Nat×Option Addr×Nat×Bb×Option Addr×CS) (λx=>x.2.1.len) (λx=>x.1+x.2.1.len=nds.len∧Ec aG Pq nds []=Ec x.2.2.2.2.2.2.2.2.2.2 x.2.2.2.2.2.2.2.2.1 x.2.1 x.2.2.1∧x.2.2.1.length≤x.1∧(Fw x.2.2.1).bnd∧F9 x.2.2.2.2.2.2.2.2.1∧x.2.1.wft∧x.2.1.txb∧Dy x.2.2.2.2.2.2.2.2.2.2∧x.2.1.size≤nds.size∧x.2.2.2.2.2.2.2.2.2.2.fresh+200002*x.2.1.size≤200002*nds.size∧x.2.1.size-(nds.size:Int)-1≤x.2.2.2.2.2.2.2.2.2.2.vars∧x.2.2.2.2.2.2.2.2.2.2.vars≤0) (λx=>(E9 2 (pB b1) 3 (pB b2) 4 (pB b3) 5 (pB A.cb) 6 (.pointer x.2.2.2.2.2.2.2.2.2.1) 7 (.slice x.2.2.2.2.1 x.2.2.1.length x.2.2.2.2.2.1) 19 (.slice na nds.len nc) 20 (iV (nds.len:Int)) 21 (iV (x.1:Int)))) (λx=>⟨λ_=>False,Bz A,As 84 163 A x.2.2.2.2.2.2.2.2.2.2,w,f⟩) (λx=>[⟨b3,[iV 0],28,true⟩,⟨b2,[iV 0,iV 0],27,true⟩,⟨b1,[.slice x.2.2.2.2.2.2.1 x.2.2.1.length x.2.2.2.2.2.2.2.1],49,true⟩]) (λx=>[⟨76,4,x.2.2.2.2.1,x.2.2.2.2.2.1,x.2.2.1.length,x.2.2.2.1⟩,⟨91,2,x.2.2.2.2.2.2.1,x.2.2.2.2.2.2.2.1,x.2.2.1.length,bC (Tw x.2.2.1)⟩]) (λx=>[]) (λx=>[λw f=>AU w f na x.1 x.2.1,λw f=>Be w f (Fw x.2.2.1) x.2.2.2.1,λw f=>AF w f x.2.2.2.2.2.2.2.2.1 x.2.2.2.2.2.2.2.2.2.1,λw f=>EE w f]) (0,nds,[],[],none,0,none,0,Pq,ea,aG) ⟨Nat.zero_add _,rfl,Nat.le_refl _,tQ,rY,hwt,htb,uK,Nat.le_refl _,by dsimp only[aG];omega,by dsimp only[aG];omega,(by decide:(-1:Int)≤0)⟩ lE (λw f hM=>hM.more (B':=[]) (F':=[λw f=>AU w f na 0 nds,λw f=>Be w f .nil []]) nE (AE.mem ⟨AD.at hM.f1,rfl,tQ⟩) (Aw.mem ⟨AU.mono,Be.mono,tQ⟩) |>.less sR sR nE (mR [0,1,2,4])) ?_;rintro⟨i,r,out,txs,ta,tc,oa,oc,e,ea,s⟩ ⟨hi,hti,hol,htyb,heB,hwt2,htx,hw,hrs,hfr,hv1,hv2⟩;dsimp only at hi hti hol htyb heB hwt2 htx hw hrs hfr hv1 hv2 ⊢;refine Aa 6 [] (λ_=>AJ 22 rfl rfl (λh1=>?_) (λh1=>?_));refine Aa 6 [] (λ_=>?_);have hil:i<nds.len:=by have:=of_decide_eq_true h1;omega
 obtain⟨op2,ln2,co2,tx2,nm2,k2,r,rfl⟩:=Nd.cases1 r oM;have hi2:i+(r.len+1)=nds.len:=hi;obtain⟨htx2,hkx2,hrx2⟩:=htx;have hrs2:k2.size+r.size+1≤nds.size:=hrs;have hfr2:s.fresh+200002*((k2.size+r.size+1:Nat):Int)≤200002*nds.size:=hfr;have hv3:((k2.size+r.size+1:Nat):Int)-nds.size-1≤s.vars:=hv1;have hkl:=Nd.len_le k2;have hfr0:=hw.fr;refine HD 0 rfl ?_;rintro⟨eb,eo,ka,kc⟩ rfl;refine Aa 26 [100,0,0,1] (aI oM<|y2<|λb4=>y<|λb5=>y<|λ_=>AJ 27 rfl rfl (λh2=>?_) (λh2=>?_));refine Aa 5 [1] (y<|λ_=>WQ rfl rfl (eC jP rfl rfl) (λ_ h=>h) (λw f hM=>Wm w f hM.vl A hA s hM.res hM.mz hw hM.f5 op2 ln2 co2 nm2 tx2 k2 ka kc oM htx2 hkx2 hM.f0 oM hv2) (λ_=>As.stab) (λ_=>trivial) (λer w2 f2 he hE hH=>LJ hn rfl rfl rfl rfl (Fx (hti.trans (Dx (T0 h2 he)))) hE (hH _ Xq) (hH _ UK) (hH _ UZ)) ?_);rintro s5 ⟨hda,hw5,hfr5,hvv5,hvw5⟩;dsimp only at hda hw5 hfr5 hvv5 hvw5 ⊢;exact Aa 11 [] (aI ⟨oM,oM⟩<|λ_=>CY ((i+1,r,out,txs,ta,tc,oa,oc,e,ea,s5)) (show r.len<r.len+1 from Nat.lt_succ_self _) ⟨show i+1+r.len=_ by omega,hti.trans (Uo (VT h2 hda)),show out.length≤i+1 by omega,htyb,heB,hwt2.2,hrx2,hw5,show r.size≤_ by omega,show s5.fresh+200002*(r.size:Int)≤_ by omega,show (r.size:Int)-nds.size-1≤s5.vars by omega,show s5.vars≤0 by omega⟩ lE (λw f hM=>⟨_,hM.less (sD (sD (sK (sK (sK sZ))))) sR nE (mR [1,3,4,5])⟩));refine Aa 7 [] (λ_=>AJ 32 rfl rfl (λh3=>?_) (λh3=>?_));refine Aa 2 [] (λ_=>?_);have hwk:k2.wfm 2:=by rcases hwt2.1 with h9|⟨h9,h8⟩|⟨h9,h8⟩ <;> first|exact h8|(exfalso;have:=beq_iff_eq.1 h3;omega)
 obtain⟨op3,ln3,co3,tx3,nm3,k3,r3,hkk⟩:=Cr hwk dC;have hwk2:r3.wfm 3:=by have h9:=hwk;rw[hkk] at h9;exact h9
 obtain⟨op4,ln4,co4,tx4,nm4,k4,r4,rfl⟩:=Cr hwk2 dC;rw[VC] at hwk2;have hks2:(Nd.cons op4 ln4 co4 tx4 nm4 k4 r4).size=k4.size+r4.size+1:=rfl;have hkl3:(Nd.cons op4 ln4 co4 tx4 nm4 k4 r4).len=r4.len+1:=rfl;have hkx3:tx3.length≤100000∧k3.txb:=by have h9:=hkx2;rw[hkk] at h9;exact⟨h9.1,h9.2.1⟩
 have hks:k2.size=k3.size+(Nd.cons op4 ln4 co4 tx4 nm4 k4 r4).size+1:=by rw[hkk];rfl
 have hkl2:k2.len=(Nd.cons op4 ln4 co4 tx4 nm4 k4 r4).len+1:=by rw[hkk];rfl
 refine Xo 0 rfl hkk<|HD 0 rfl ?_;rintro⟨eb3,eo3,ka3,kc3⟩ rfl;refine HD 1 rfl ?_;rintro⟨eb4,eo4,ka4,kc4⟩ h44;obtain⟨rfl,rfl⟩:eb3=eb4∧eo3=eo4:=by cases h44;exact⟨rfl,rfl⟩
 refine V8 [2,3,4] (λw=>AI w A.cb [pB A.sb,.map (some A.km),.map (some A.dm),.map (some A.rm),iV s.vars] 84∧BF BN w A.rm (s.roots.map λk=>(k,.bool true))) (λw f h _=>⟨h.blk,h.roots⟩) [0,1,2,3,4] Ak (rd [0,1,2,3,4,5,6,7,8,9] (.br 10 .fin .fin)) rfl kR kR kR rfl Ey<|A1 3 [] (λ_=>F6 rfl rfl rfl (λw hK=>Ai rfl gJ hK.2.2.1 rfl)<|A1 2 [1] (y<|λ_=>F6 rfl rfl rfl (λw hK=>Lt (K:=BN) (a:=tx2) rfl rfl Vp FH eO hK.2.2.2 hw.dr (QK s.roots))<|A1 3 [1] (y<|λ_=>Af rfl ?_ Aj)));refine WQ (α:=Unit) (val:=λ_=>.tuple #[]) (q:=λ_=>(!s.roots.contains tx2)=true) (I':=λ_=>As 84 163 A s) (F':=λ_=>[]) (pe:=λer=>(!s.roots.contains tx2)=false∧er=(ln2,co2,11)) (M:=λ_=>False) (T:=67) rfl rfl (eC Eh rfl rfl) (λ_ h=>h.elim) (λw f hM=>(Cj w f hM.vl (!s.roots.contains tx2) ln2 co2).mono (λ_ _ ⟨x,f2,h1,h2,h3,h4⟩=>⟨x,f2,h1,h2,h3.mono (λ_ h=>h.elim),(hM.call0 h3).res,h4⟩) λ_ _ h=>h) (λ_=>As.stab) (λ_=>trivial) (λer w2 f2 he hE hH=>LJ hn rfl rfl rfl rfl (Fx (hti.trans (Dx (by obtain⟨h9,rfl⟩:=he;rw[hkk];exact SO h3 (Fl h9))))) hE (hH _ Xq) (hH _ UK) (hH _ UZ)) ?_;rintro⟨⟩ hnd;replace hnd:s.roots.contains tx2=false:=EV hnd;refine Aa 1 [] (λ_=>AW [0,1,2,3,4] (λw f h _=>⟨h.blk,h.roots⟩) rfl (λ_ h=>h)<|Bf<|Aa 2 [] (λ_=>V8 [2,3,4] (λw=>AI w A.cb [pB A.sb,.map (some A.km),.map (some A.dm),.map (some A.rm),iV s.vars] 84) (λw f h _=>h.blk) [0,1,2,3,4] Ak (rd [0,1,2,3,4,5] (.br 6 .fin .fin)) rfl kR kR kR rfl Ey<|A1 3 [] (λ_=>F6 rfl rfl rfl (λw hK=>Ai rfl gJ hK.2.2 rfl)<|A1 2 [1] (y<|λ_=>Af rfl ?_ Aj))));refine pD (a:=tx2) hA hw rfl rfl rfl rfl Vp FH hnd ?_;have hwr:=hw.addRoot hnd;refine Aa 1 [] (λ_=>AW [0,1,2,3,4] (λw f h _=>h.blk) rfl (λ_ h=>h)<|Bf<|Aa 8 [1,101,0] (y<|aI oM<|y2<|λ_=>WQ (α:=T1×Option Addr×Nat) (val:=λx=>tV x.1 x.2.1 x.2.2) (q:=λx=>CD s.datas [] op3 ln3 co3 tx3 k3=.ok x.1∧x.1.bnd) (I':=λ_=>As 84 163 A ({s with roots:=tx2::s.roots}:CS)) (F':=λx=>[λw f=>Al w f x.1.kids x.2.1 x.2.2]) (pe:=λer=>CD s.datas [] op3 ln3 co3 tx3 k3=.error er) (M:=λ_=>False) (T:=67) rfl rfl (eC M9 rfl rfl) (λ_ h=>h.elim) (λw f hM=>(Ko (k3.size+1) w f hM.vl A ({s with roots:=tx2::s.roots}:CS) hM.res hwr hM.f10 op3 ln3 co3 nm3 tx3 k3 ka3 kc3 (.map none) [] (Nat.lt_succ_self _) oM hkx3.1 hkx3.2 (.inl ⟨rfl,rfl⟩) hM.f2).mono (λ_ _ ⟨x,f2,h1,h2,h3,h4⟩=>⟨x,f2,h1,h2,h3.mono (λ_ h=>h.elim),(hM.call0 h3).res,h4⟩) λ_ _ h=>h) (λ_=>As.stab) (λ_=>⟨Al.mono,tQ⟩) (λer w2 f2 he hE hH=>LJ hn rfl rfl rfl rfl (Fx (hti.trans (Dx (by rw[hkk];exact SL h3 hnd he)))) hE (hH _ Xq) (hH _ UK) (hH _ UZ)) ?_));rintro⟨q5,qa,qc⟩ ⟨hp5,hqb⟩;dsimp only at hp5 hqb ⊢;refine Aa 5 [0] (λb6=>y<|λ_=>V8 [2,3,4] (λ_=>True) EG [0,1,2,3,4,5] Ak (rd [0,1,2,3,4,5,6,7,9,10] (.br 8 (.br 11 .fin .fin) .fin)) rfl kR kR kR rfl Ey<|A1 10 [0,2,100,0,2] (y<|y<|aI oM<|y2<|y<|λ_=>Af rfl ?_ Aj))
 refine WQ rfl rfl (eC C6 rfl rfl) (λ_ h=>h) (λw f hM=>Jc (k4.size+1) w f hM.vl A hA ({s with roots:=tx2::s.roots}:CS) hM.res hM.mz hwr op4 ln4 co4 nm4 tx4 k4 ka4 kc4 e ea (Nat.lt_succ_self _) oM hwk2 hM.f1 heB hM.f10 (by first|omega|(dsimp only;omega))) (λ_=>As.stab) (λ_=>⟨Al.mono,tQ⟩) (λer w2 f2 he hE hH=>LJ hn rfl rfl rfl rfl (Fx (hti.trans (Dx (by rw[hkk];exact SH h3 hnd hp5 he)))) hE (hH _ vF) (hH _ Xq) (hH _ UK)) ?_;rintro⟨⟨t6,t6a,t6c⟩,s6⟩ ⟨hp6,htb6,hw6,hf6⟩;dsimp only at hp6 htb6 hw6 hf6 ⊢;have hfm6:=Ge Ef _ hp6;have hvv6:s6.vars=s.vars:=hfm6.2.2.2;refine Aa 1 [] (λ_=>Au [0,1,2,3,4,5] rfl<|Af rfl ?_ Aj);refine WQ rfl rfl (eC FN rfl rfl) (λ_ h=>h) (λw f hM=>CH w f hM.vl A hA s6 hM.res hM.mz hw6 q5 t6 qa qc t6a t6c hqb htb6 hM.f1 hM.f0 ln2 co2) (λ_=>As.stab) (λ_=>trivial) (λer w2 f2 he hE hH=>LJ hn rfl rfl rfl rfl (Fx (hti.trans (Dx (by rw[hkk];exact Th h3 hnd hp5 hp6 he)))) hE (hH _ vF) (hH _ Xq) (hH _ UK)) ?_;rintro s7 ⟨hh7,hw7,hf7⟩;have hvv7:s7.vars=s.vars:=(Ef.has hh7).2.2.2.trans hvv6;refine Aa 1 [] (λ_=>Au [0,1,2,3,4,5] rfl<|Bf<|Aa 5 [0] (y<|λb7=>λ_=>CJ 0 rfl rfl<|Br (α:=Option Addr×Nat) rfl rfl (eC Bu rfl rfl) (λw f hM=>WE w f hM.vl CK q5 b7 (CL (l:=[(q5,qa,qc)]) ⟨hM.f1,tQ⟩ hM.b0)) (λ_=>⟨Al.mono,tQ⟩) ?_));rintro⟨ua,uc⟩ -;refine Aa 11 [1,2,1,2] (y<|y<|y<|y<|λ_=>?_);have hub:(T1.con CK q5.one).bnd:=Dc dC (by rw[T1.one,T1.len_cons];simp only[Ty.len];omega) (Gf hqb);refine WQ rfl rfl (eC HQ rfl rfl) (λ_ h=>h) (λw f hM=>DL w f hM.vl A hA s7 hM.res hM.mz hw7 e ea heB hM.f12 tx2 (T1.con CK q5.one) ua uc hub hM.f0 false ln2 co2) (λ_=>As.stab) (λ_=>⟨AF.mono,tQ⟩) (λer w2 f2 he hE hH=>LJ hn rfl rfl rfl rfl (by cases he) hE (hH _ vF) (hH _ Xq) (hH _ UK)) ?_;rintro⟨e7,ea7⟩ ⟨he7,heB7⟩;dsimp only at he7 heB7 ⊢;have hee:e7=⟨tx2,.con CK q5.one,[]⟩::e:=by cases he7;rfl
 subst hee;refine Aa 11 [5,2] (y<|y<|λb8=>λ_=>CT 1 0 rfl rfl UO rfl rfl rfl rfl rfl rfl rfl rfl (λ_ _=>rfl) oM oM λoa2 oc2=>Aa 7 [6,2] (y<|y<|λb9=>λ_=>CT 0 0 rfl rfl CU rfl rfl rfl rfl rfl rfl rfl rfl (λ_ _=>rfl) oM oM λta2 tc2=>Aa 8 [] (aI ⟨oM,oM⟩<|λ_=>?_)));exact CY ((i+1,r,(out++[(tx2,(T1.con CK q5.one))]),txs++tC (T1.con CK q5.one) ua uc,ta2,tc2,oa2,oc2,(⟨tx2,.con CK q5.one,[]⟩::e),ea7,s7)) (show r.len<r.len+1 from Nat.lt_succ_self _) ⟨show i+1+r.len=_ by omega,hti.trans (HY (by rw[hkk];exact Vs h3 hnd hp5 hp6 hh7)),show (out++[(tx2,(T1.con CK q5.one))]).length≤i+1 by rw[List.length_append];simp;omega,show (Fw (out++[(tx2,(T1.con CK q5.one))])).bnd by rw[DQ];exact Ty.bnd_snoc htyb hub,heB7,hwt2.2,hrx2,hw7,show r.size≤_ by omega,show s7.fresh+200002*(r.size:Int)≤_ by omega,show (r.size:Int)-nds.size-1≤s7.vars by omega,show s7.vars≤0 by omega⟩ (WV rfl rfl rfl rfl rfl (Eq.trans (b:=some (Value.slice ta2 (out.length+1) tc2)) rfl (by dsimp only;rw[List.length_append];rfl)) rfl rfl rfl) (λw f hM=>⟨_,by have hM9:=(hM.more (B':=[]) (F':=[λw f=>Be w f (Fw (out++[(tx2,(T1.con CK q5.one))])) (txs++tC (T1.con CK q5.one) ua uc)]) nE (AE.mem ⟨by rw[DQ];exact Be.snoc hM.f1 hM.f12,tQ⟩) (Aw.mem ⟨Be.mono,tQ⟩)).less (sD (sD (sD (sD (sD (sK (sK (sK sZ)))))))) sR (B':=[]) nE (F':=[λw f=>AU w f (some ⟨eb,eo,none⟩) (i+1) r,λw f=>Be w f (Fw (out++[(tx2,(T1.con CK q5.one))])) (txs++tC (T1.con CK q5.one) ua uc),λw f=>AF w f (⟨tx2,.con CK q5.one,[]⟩::e) ea7,λw f=>EE w f]) (mR [11,0,1,15]);dsimp only;rw[show (out++[(tx2,(T1.con CK q5.one))]).length=out.length+1 by rw[List.length_append];rfl,show bC (Tw (out++[(tx2,(T1.con CK q5.one))]))=bC (Tw out)++[S tx2,S []] by rw[Tw,List.map_append,SP.bC_app];rfl];exact hM9⟩);refine Aa 7 [] (λ_=>AJ 80 rfl rfl (λh4=>?_) (λh4=>?_));refine Aa 2 [] (λ_=>?_);have hwk:k2.wfm 3:=by rcases hwt2.1 with h9|⟨h9,h8⟩|⟨h9,h8⟩ <;> first|exact h8|(exfalso;have:=beq_iff_eq.1 h4;omega)
 obtain⟨op3,ln3,co3,tx3,nm3,k3,r3,hkk⟩:=Cr hwk dC;have hwk1:Gx op3 k3:=by have h9:=hwk;rw[hkk] at h9;exact h9
 have hks:k2.size=k3.size+r3.size+1:=by rw[hkk];rfl
 have hkl2:k2.len=r3.len+1:=by rw[hkk];rfl
 refine Xo 0 rfl hkk<|HD 0 rfl ?_;rintro⟨eb3,eo3,ka3,kc3⟩ rfl;refine Aa 7 [1,100,0] (y<|aI oM<|y2<|λ_=>WQ rfl rfl (eC C6 rfl rfl) (λ_ h=>h) (λw f hM=>Jc (k3.size+1) w f hM.vl A hA s hM.res hM.mz hw op3 ln3 co3 nm3 tx3 k3 ka3 kc3 e ea (Nat.lt_succ_self _) oM hwk1 hM.f0 heB hM.f7 (by first|omega|(dsimp only;omega))) (λ_=>As.stab) (λ_=>⟨Al.mono,tQ⟩) (λer w2 f2 he hE hH=>LJ hn rfl rfl rfl rfl (Fx (hti.trans (Dx (by rw[hkk];exact Wg h4 he)))) hE (hH _ Xq) (hH _ UK) (hH _ UZ)) ?_);rintro⟨⟨t6,t6a,t6c⟩,s6⟩ ⟨hp6,htb6,hw6,hf6⟩;dsimp only at hp6 htb6 hw6 hf6 ⊢;have hfm6:=Ge Ef _ hp6;have hvv6:s6.vars=s.vars:=hfm6.2.2.2;refine Aa 3 [0] (y<|λ_=>V8 [2,3,4] (λ_=>True) EG [0,1,2,3,4] Ak (rd [0,1,2,3,4,5,6,7,8,10,11] (.br 9 (.br 12 (.rd 13 .fin) .fin) .fin)) rfl kR kR kR rfl Ey<|A1 11 [1,0,1,100,0,1] (y<|y<|y<|aI oM<|y2<|y<|λ_=>Af rfl ?_ Aj));refine Br rfl rfl (eC SA rfl rfl) (λw f hM=>JD (k3.size+1) w f hM.vl op3 ln3 co3 nm3 tx3 k3 ka3 kc3 (Nat.lt_succ_self _) oM hM.f1) (λx=>trivial) ?_;rintro⟨⟩ -;refine Aa 1 [] (λ_=>Au [0,1,2,3,4] rfl<|Af rfl ?_ Aj);refine WQ rfl rfl (eC HQ rfl rfl) (λ_ h=>h) (λw f hM=>DL w f hM.vl A hA s6 hM.res hM.mz hw6 e ea heB hM.f8 tx2 t6 t6a t6c htb6 hM.f0 (Cq (k3.size+1) op3 k3) ln2 co2) (λ_=>As.stab) (λ_=>⟨AF.mono,tQ⟩) (λer w2 f2 he hE hH=>LJ hn rfl rfl rfl rfl (Fx (hti.trans (Dx (by rw[hkk];exact Wy h4 hp6 he)))) hE (hH _ Xq) (hH _ UK) (hH _ UZ)) ?_;rintro⟨e7,ea7⟩ ⟨he7,heB7⟩;dsimp only at he7 heB7 ⊢;refine Aa 1 [] (λ_=>Au [0,1,2,3,4] rfl<|A1 1 [] (λ_=>Bf<|Aa 9 [4,1] (y<|y<|λb10=>λ_=>CT 1 0 rfl rfl UO rfl rfl rfl rfl rfl rfl rfl rfl (λ_ _=>rfl) oM oM λoa2 oc2=>Aa 7 [5,1] (y<|y<|λb11=>λ_=>CT 0 0 rfl rfl CU rfl rfl rfl rfl rfl rfl rfl rfl (λ_ _=>rfl) oM oM λta2 tc2=>Aa 8 [] (aI ⟨oM,oM⟩<|λ_=>?_)))))
 exact CY ((i+1,r,(out++[(tx2,t6)]),txs++tC t6 t6a t6c,ta2,tc2,oa2,oc2,e7,ea7,s6)) (show r.len<r.len+1 from Nat.lt_succ_self _) ⟨show i+1+r.len=_ by omega,hti.trans (HY (by rw[hkk];exact X3 h4 hp6 he7)),show (out++[(tx2,t6)]).length≤i+1 by rw[List.length_append];simp;omega,show (Fw (out++[(tx2,t6)])).bnd by rw[DQ];exact Ty.bnd_snoc htyb htb6,heB7,hwt2.2,hrx2,hw6,show r.size≤_ by omega,show s6.fresh+200002*(r.size:Int)≤_ by omega,show (r.size:Int)-nds.size-1≤s6.vars by omega,show s6.vars≤0 by omega⟩ (WV rfl rfl rfl rfl rfl (Eq.trans (b:=some (Value.slice ta2 (out.length+1) tc2)) rfl (by dsimp only;rw[List.length_append];rfl)) rfl rfl rfl) (λw f hM=>⟨_,by have hM9:=(hM.more (B':=[]) (F':=[λw f=>Be w f (Fw (out++[(tx2,t6)])) (txs++tC t6 t6a t6c)]) nE (AE.mem ⟨by rw[DQ];exact Be.snoc hM.f1 hM.f8,tQ⟩) (Aw.mem ⟨Be.mono,tQ⟩)).less (sD (sD (sD (sD (sK (sK (sK sZ))))))) sR (B':=[]) nE (F':=[λw f=>AU w f (some ⟨eb,eo,none⟩) (i+1) r,λw f=>Be w f (Fw (out++[(tx2,t6)])) (txs++tC t6 t6a t6c),λw f=>AF w f e7 ea7,λw f=>EE w f]) (mR [7,0,1,11]);dsimp only;rw[show (out++[(tx2,t6)]).length=out.length+1 by rw[List.length_append];rfl,show bC (Tw (out++[(tx2,t6)]))=bC (Tw out)++[S tx2,S []] by rw[Tw,List.map_append,SP.bC_app];rfl];exact hM9⟩);refine Aa 7 [] (λ_=>AJ 102 rfl rfl (λh5=>?_) (λh5=>?_));refine Aa 2 [] (λ_=>?_);have hwk:k2.wfm 3:=by rcases hwt2.1 with h9|⟨h9,h8⟩|⟨h9,h8⟩ <;> first|exact h8|(exfalso;have:=beq_iff_eq.1 h5;omega)
 obtain⟨op3,ln3,co3,tx3,nm3,k3,r3,rfl⟩:=Cr hwk dC;rw[VC] at hwk;have hks:(Nd.cons op3 ln3 co3 tx3 nm3 k3 r3).size=k3.size+r3.size+1:=rfl;refine Aa 4 [1] (y<|λ_=>WQ rfl rfl (eC Xk rfl rfl) (λ_ h=>h) (λw f hM=>Rx (k3.size+1) (Jc (k3.size+1)) w f hM.vl A hA s hM.res hM.mz hw op2 ln2 co2 nm2 tx2 op3 ln3 co3 nm3 tx3 k3 r3 ka kc e ea (Nat.lt_succ_self _) oM hwk hM.f0 heB hM.f4 oM) (λ_=>As.stab) (λ_=>⟨Al.mono,tQ⟩) (λer w2 f2 he hE hH=>LJ hn rfl rfl rfl rfl (Fx (hti.trans (Dx (Wi h5 he)))) hE (hH _ Xq) (hH _ UK) (hH _ UZ)) ?_);rintro⟨⟨t6,t6a,t6c⟩,s6⟩ ⟨hp6,htb6,hw6,hf6⟩;dsimp only at hp6 htb6 hw6 hf6 ⊢;have hfm6:=P6 Ef (Ge Ef _) hp6;have hvv6:s6.vars=s.vars:=hfm6.2.2.2;refine Aa 11 [0,1,0,1] (y<|y<|y<|y<|λ_=>WQ rfl rfl (eC HQ rfl rfl) (λ_ h=>h) (λw f hM=>DL w f hM.vl A hA s6 hM.res hM.mz hw6 e ea heB hM.f5 tx2 t6 t6a t6c htb6 hM.f0 true ln2 co2) (λ_=>As.stab) (λ_=>⟨AF.mono,tQ⟩) (λer w2 f2 he hE hH=>LJ hn rfl rfl rfl rfl (Fx (hti.trans (Dx (Wj h5 hp6 he)))) hE (hH _ Xq) (hH _ UK) (hH _ UZ)) ?_);rintro⟨e7,ea7⟩ ⟨he7,heB7⟩;dsimp only at he7 heB7 ⊢;exact Aa 11 [4,1] (y<|y<|λb12=>λ_=>CT 1 0 rfl rfl UO rfl rfl rfl rfl rfl rfl rfl rfl (λ_ _=>rfl) oM oM λoa2 oc2=>Aa 7 [5,1] (y<|y<|λb13=>λ_=>CT 0 0 rfl rfl CU rfl rfl rfl rfl rfl rfl rfl rfl (λ_ _=>rfl) oM oM λta2 tc2=>Aa 8 [] (aI ⟨oM,oM⟩<|λ_=>CY ((i+1,r,(out++[(tx2,t6)]),txs++tC t6 t6a t6c,ta2,tc2,oa2,oc2,e7,ea7,s6)) (show r.len<r.len+1 from Nat.lt_succ_self _) ⟨show i+1+r.len=_ by omega,hti.trans (HY (Z5 h5 hp6 he7)),show (out++[(tx2,t6)]).length≤i+1 by rw[List.length_append];simp;omega,show (Fw (out++[(tx2,t6)])).bnd by rw[DQ];exact Ty.bnd_snoc htyb htb6,heB7,hwt2.2,hrx2,hw6,show r.size≤_ by omega,show s6.fresh+200002*(r.size:Int)≤_ by omega,show (r.size:Int)-nds.size-1≤s6.vars by omega,show s6.vars≤0 by omega⟩ (WV rfl rfl rfl rfl rfl (Eq.trans (b:=some (Value.slice ta2 (out.length+1) tc2)) rfl (by dsimp only;rw[List.length_append];rfl)) rfl rfl rfl) (λw f hM=>⟨_,by have hM9:=(hM.more (B':=[]) (F':=[λw f=>Be w f (Fw (out++[(tx2,t6)])) (txs++tC t6 t6a t6c)]) nE (AE.mem ⟨by rw[DQ];exact Be.snoc hM.f1 hM.f5,tQ⟩) (Aw.mem ⟨Be.mono,tQ⟩)).less (sD (sD (sD (sD (sK (sK (sK sZ))))))) sR (B':=[]) nE (F':=[λw f=>AU w f (some ⟨eb,eo,none⟩) (i+1) r,λw f=>Be w f (Fw (out++[(tx2,t6)])) (txs++tC t6 t6a t6c),λw f=>AF w f e7 ea7,λw f=>EE w f]) (mR [4,0,1,8]);dsimp only;rw[show (out++[(tx2,t6)]).length=out.length+1 by rw[List.length_append];rfl,show bC (Tw (out++[(tx2,t6)]))=bC (Tw out)++[S tx2,S []] by rw[Tw,List.map_append,SP.bC_app];rfl];exact hM9⟩))));refine Aa 7 [] (λ_=>AJ 116 rfl rfl (λh6=>?_) (λh6=>?_));refine Aa 2 [] (λ_=>?_);have hwk:k2.wfm 3:=by rcases hwt2.1 with h9|⟨h9,h8⟩|⟨h9,h8⟩ <;> first|exact h8|(exfalso;have:=beq_iff_eq.1 h6;omega)
 obtain⟨op3,ln3,co3,tx3,nm3,k3,r3,hkk⟩:=Cr hwk dC;have hwk1:Gx op3 k3:=by have h9:=hwk;rw[hkk] at h9;exact h9
 have hks:k2.size=k3.size+r3.size+1:=by rw[hkk];rfl
 have hkl2:k2.len=r3.len+1:=by rw[hkk];rfl
 refine Xo 0 rfl hkk<|HD 0 rfl ?_;rintro⟨eb3,eo3,ka3,kc3⟩ rfl;refine Aa 7 [1,100,0] (y<|aI oM<|y2<|λ_=>WQ rfl rfl (eC C6 rfl rfl) (λ_ h=>h) (λw f hM=>Jc (k3.size+1) w f hM.vl A hA s hM.res hM.mz hw op3 ln3 co3 nm3 tx3 k3 ka3 kc3 e ea (Nat.lt_succ_self _) oM hwk1 hM.f0 heB hM.f7 (by first|omega|(dsimp only;omega))) (λ_=>As.stab) (λ_=>⟨Al.mono,tQ⟩) (λer w2 f2 he hE hH=>LJ hn rfl rfl rfl rfl (Fx (hti.trans (Dx (by rw[hkk];exact Xf h6 he)))) hE (hH _ Xq) (hH _ UK) (hH _ UZ)) ?_);rintro⟨⟨t6,t6a,t6c⟩,s6⟩ ⟨hp6,htb6,hw6,hf6⟩;dsimp only at hp6 htb6 hw6 hf6 ⊢;have hfm6:=Ge Ef _ hp6;have hvv6:s6.vars=s.vars:=hfm6.2.2.2;refine Aa 16 [0,1,4,1] (y<|y<|y<|y<|λb14=>λ_=>CT 1 0 rfl rfl UO rfl rfl rfl rfl rfl rfl rfl rfl (λ_ _=>rfl) oM oM λoa2 oc2=>Aa 7 [5,1] (y<|y<|λb15=>λ_=>CT 0 0 rfl rfl CU rfl rfl rfl rfl rfl rfl rfl rfl (λ_ _=>rfl) oM oM λta2 tc2=>Aa 8 [] (aI ⟨oM,oM⟩<|λ_=>?_)));exact CY ((i+1,r,(out++[(([]:lU),t6)]),txs++tC t6 t6a t6c,ta2,tc2,oa2,oc2,e,ea,s6)) (show r.len<r.len+1 from Nat.lt_succ_self _) ⟨show i+1+r.len=_ by omega,hti.trans (HY (by rw[hkk];exact cB h6 hp6)),show (out++[(([]:lU),t6)]).length≤i+1 by rw[List.length_append];simp;omega,show (Fw (out++[(([]:lU),t6)])).bnd by rw[DQ];exact Ty.bnd_snoc htyb htb6,heB,hwt2.2,hrx2,hw6,show r.size≤_ by omega,show s6.fresh+200002*(r.size:Int)≤_ by omega,show (r.size:Int)-nds.size-1≤s6.vars by omega,show s6.vars≤0 by omega⟩ (WV rfl rfl rfl rfl rfl (Eq.trans (b:=some (Value.slice ta2 (out.length+1) tc2)) rfl (by dsimp only;rw[List.length_append];rfl)) rfl rfl rfl) (λw f hM=>⟨_,by have hM9:=(hM.more (B':=[]) (F':=[λw f=>Be w f (Fw (out++[(([]:lU),t6)])) (txs++tC t6 t6a t6c)]) nE (AE.mem ⟨by rw[DQ];exact Be.snoc hM.f0 hM.f7,tQ⟩) (Aw.mem ⟨Be.mono,tQ⟩)).less (sD (sD (sD (sD (sK (sK (sK sZ))))))) sR (B':=[]) nE (F':=[λw f=>AU w f (some ⟨eb,eo,none⟩) (i+1) r,λw f=>Be w f (Fw (out++[(([]:lU),t6)])) (txs++tC t6 t6a t6c),λw f=>AF w f e ea,λw f=>EE w f]) (mR [6,0,9,10]);dsimp only;rw[show (out++[(([]:lU),t6)]).length=out.length+1 by rw[List.length_append];rfl,show bC (Tw (out++[(([]:lU),t6)]))=bC (Tw out)++[S ([]:lU),S []] by rw[Tw,List.map_append,SP.bC_app];rfl];exact hM9⟩);exfalso;have gh2:=beq_eq_false_iff_ne.1 h2;have gh3:=beq_eq_false_iff_ne.1 h3;have gh4:=beq_eq_false_iff_ne.1 h4;have gh5:=beq_eq_false_iff_ne.1 h5;have gh6:=beq_eq_false_iff_ne.1 h6;rcases hwt2.1 with h9|⟨h9,h8⟩|⟨h9,h8⟩ <;> omega
 refine Aa 3 [] (λ_=>EH<|Aa 4 [] (λ_=>?_));obtain rfl:r=.nil:=Nd.len0 (by have:=of_decide_eq_false h1;omega);have hti2:Ec aG Pq nds []=.ok (out,s):=hti;have hol2:out.length≤200000:=oM;refine LF (λw f=>Al w f (Fw out) ta tc) Al.mono (λw f hM=>Ha hM hM.f1)<|Aa 7 [] (λ_=>?_);refine EZ (α:=List (lU×lU)×List (lU×T1)) (λx=>x.2.length) (λx=>x.1.length+x.2.length=out.length∧(CA nds=match JO s x.2 with|.error e=>.error e|.ok l=>.ok (x.1++l))∧(Fw x.2).bnd) (λx=>(E7 2 (pB b1) 3 (pB b2) 4 (pB b3) 5 (pB A.cb) 137 (.slice ta out.length tc) 138 (iV (out.length:Int)) 139 (iV (x.1.length:Int)))) (λx=>⟨λ_=>False,Bz A,As 84 163 A s,w,f⟩) (λx=>[⟨b3,[iV 0],28,true⟩,⟨b2,[iV 0,iV 0],27,true⟩,⟨b1,[.slice oa out.length oc],49,true⟩]) (λx=>[⟨91,2,oa,oc,out.length,bC (P4 x.1 x.2)⟩]) (λx=>[]) (λx=>[λw f=>BI w f ta x.1.length (Fw x.2)]) ([],out) ⟨by simp,(lW hti2).trans SK,htyb⟩ lE (λw f hM=>hM.more (B':=[]) (F':=[λw f=>BI w f ta 0 (Fw out)]) nE (AE.mem ⟨Al.at hM.f0,tQ⟩) (Aw.mem ⟨BI.mono,tQ⟩) |>.less (sK (sK (sK sZ))) sR nE (mR [0])) ?_;rintro⟨d,r⟩ ⟨hdl,hfi,htyr⟩;dsimp only at hdl hfi htyr ⊢;refine Aa 6 [] (λ_=>AJ 140 rfl rfl (λh7=>?_) (λh7=>?_));refine Aa 6 [] (λ_=>?_);have hjl:d.length<out.length:=by have:=of_decide_eq_true h7;omega
 obtain⟨⟨nm2,t2⟩,r2,rfl⟩:∃p q,r=p::q:=by cases r with|nil=>simp only[List.length_nil] at hdl;omega|cons p q=>exact⟨p,q,rfl⟩
 have htb2:t2.bnd∧(Fw r2).bnd:=T1.bnd_cons.1 htyr;refine Ig (p:=∃ob,oa=some ⟨ob,0,none⟩) (λw f hM=>by rcases (hM.row _ (.head _)).2 with ⟨_,_,h9⟩|⟨ob,_,h9,_⟩;(dsimp only at h9;omega);exact⟨ob,h9⟩) λhob=>?_;obtain⟨ob,rfl⟩:=hob;refine Kb (α:=Nat×Nat×Option Addr×Nat) (λx=>ta=some ⟨x.1,x.2.1,none⟩) (λx=>[⟨x.1,x.2.1+d.length*4,tC t2 x.2.2.1 x.2.2.2⟩]) (λx=>[λw f=>Al w f t2.kids x.2.2.1 x.2.2.2,λw f=>BI w f ta (d.length+1) (Fw r2)]) (λw f hM=>let ⟨b,off,ka,kc,h1,h2,h3,h4⟩:=BI.head (show BI w f ta d.length (t2.cons (Fw r2)) from hM.f0);⟨(b,off,ka,kc),h1,(oE h2),AE.mem ⟨h3,h4,tQ⟩⟩) (λx=>Aw.mem ⟨Al.mono,BI.mono,tQ⟩) ?_;rintro⟨ab2,ao2,ka2,kc2⟩ rfl;refine Aa 9 [100,0,0] (aI oM<|y2<|λb16=>y<|λ_=>V8 [2,3,4] (λ_=>True) EG [0,1,2,3] Ak (rd [0,1,2,3,4] (.br 5 (.br 6 (.rd 7 (.rd 8 (.br 9 .fin .fin))) .fin) .fin)) rfl kR kR kR rfl Ey<|A1 5 [3,0] (y<|y<|λ_=>Af rfl ?_ Aj));refine WQ rfl rfl (eC Fk rfl rfl) (λ_ h=>h) (λw f hM=>Ci w f hM.vl A hA s hM.res hM.mz hw t2 ka2 kc2 htb2.1 hM.f0 0 0) (λ_=>As.stab) (λ_=>⟨Al.mono,tQ⟩) (λer w2 f2 he hE hH=>LJ hn rfl rfl rfl rfl (by rw[hfi,Xd he]) hE (hH _ UK) (hH _ UZ) (hH _ gU)) ?_;rintro⟨u2,ua2,uc2⟩ ⟨hfu,hub2,hus2⟩;dsimp only at hfu hub2 hus2 ⊢;refine Aa 1 [] (λ_=>Au [0,1,2,3] rfl<|Af rfl ?_ Aj);refine Br rfl rfl (eC mO rfl rfl) (λw f hM=>Wz w f hM.vl u2 ua2 uc2 hus2 hub2 hM.f0) (λx=>trivial) ?_;rintro⟨⟩ -;refine Aa 1 [] (λ_=>Au [0,1,2,3] rfl<|A1 2 [] (aI oM<|λ_=>Af rfl ?_ Aj));exact vN 0 (bC (P4 (d++[(nm2,O5 u2)]) r2)) rfl rfl rfl rfl Zw rfl rfl rfl (by simp only[Nat.zero_add,List.length_cons,List.length_nil,Int.toNat_natCast];omega) (by rw[Nat.zero_add,Int.toNat_natCast];exact VW) rfl<|Aa 1 [] (λ_=>Au [0,1,2,3] rfl<|Bf<|Aa 6 [] (aI ⟨oM,oM⟩<|λ_=>CY ((d++[(nm2,O5 u2)],r2)) (show r2.length<((nm2,t2)::r2).length from Nat.lt_succ_self _) ⟨show (d++[(nm2,O5 u2)]).length+r2.length=_ by simp only[List.length_append,List.length_cons,List.length_nil] at hdl ⊢;omega,hfi.trans (Wf hfu),htb2.2⟩ (xD rfl rfl rfl rfl rfl rfl (Eq.trans (b:=some (Value.int .i64 ((d.length:Int)+1))) rfl (by dsimp only;simp))) (λw f hM=>⟨_,by have hM9:=hM.less (sD (sK (sK (sK sZ)))) sR (B':=[]) nE (F':=[λw f=>BI w f (some ⟨ab2,ao2,none⟩) (d.length+1) (Fw r2)]) (mR [2]);dsimp only;rw[List.length_append];exact hM9⟩)));refine Aa 3 [] (λ_=>EH<|Aa 3 [] (λ_=>?_));obtain rfl:r=[]:=by have h9:=of_decide_eq_false h7;cases r with|nil=>rfl|cons p q=>simp only[List.length_cons] at hdl;omega
 refine Aa 9 [2,2,1,0] (y<|y<|y<|y<|λ_=>λw9 f9 hM=>?_);obtain⟨f8,hM8,hB8⟩:=Pe (l:=P4 d []) (by have hM9:=hM;rw[show out.length=(P4 d []).length by rw[P4,List.length_append];simp only[List.map_nil,List.length_nil];exact hdl.symm] at hM9;exact hM9);have hinf:CA nds=.ok d:=by rw[hfi];show (Except.ok (d++[]):RI _)=_;rw[List.append_nil]
 have hdd:P4 d []=d:=List.append_nil d;rw[hdd] at hB8;exact λtmps ht=>qK rfl rfl rfl rfl hinf hM8.exm hB8 (by have h9:=hM8.blk _ UZ;rw[hdd] at h9;exact h9) (hM8.blk _ gU) (hM8.blk _ uQ) tmps ht
end Go.Proofs.YtelmolopaolbcaaGreatDoor
namespace Go.SP
open Go.SW Go.RowKit
def Fo.sz:Fo→Nat
 |.nil=>0
 |.cons _ k r=>k.sz+r.sz+1
structure NW(k:Fo)(a:N):Prop where
 tx:a.tx.length≤100000
 kt:a.kids.txb
 sz:a.kids.size+2≤2*(k.sz+1)
def EW(f:AK→Fo→R N):Prop:=∀t k a,t.ok→k.ok→f t k=.ok a→NW k a
theorem I0{f:AK→Fo→R N}(hf:EW f):∀(fo:Fo)(x:Nd),fo.ok→Bk f fo=.ok x→x.txb∧x.size+x.len≤2*fo.sz∧x.len=fo.len
 |.nil,x,_,h=>by cases h;exact⟨tQ,Nat.le_refl _,rfl⟩
 |.cons t k r,x,hk,h=>by
   unfold Bk at h
   split at h
   · cases h
   rename_i a h1
   split at h
   · cases h
   rename_i b h2
   cases h
   have ha:=hf t k a hk.1 hk.2.1 h1;obtain⟨e1,e2,e3⟩:=I0 hf r b hk.2.2.2 h2;refine⟨⟨ha.tx,ha.kt,e1⟩,?_,by simp only[N.cons,Nd.len,Fo.len,e3]⟩;have:=ha.sz;simp only[N.cons,Nd.size,Nd.len,Fo.sz];omega
variable {hk:Fo}{co ln nm:Int}{n:Nat}{ks:Nd}
theorem fP{t:AK}{k:Fo}{op:Int}{tx:lU}(h:tx.length≤100000):NW k ⟨op,ln,co,tx,nm,.nil⟩:=⟨h,tQ,by simp only[Nd.size];omega⟩
theorem pP{f:AK→Fo→R N}(hf:EW f){h:AK}{l:Fo}(hl:(Fo.cons h hk l).ok){op:Int}{tx:lU}(ht:tx.length≤100000)(he:Bk f l=.ok ks):NW (.cons h hk l) ⟨op,ln,co,tx,nm,ks⟩:=by
 obtain⟨e1,e2,_⟩:=I0 hf l ks hl.2.2.2 he;refine⟨ht,e1,?_⟩;simp only[Fo.sz];omega
theorem wB{f:AK→Fo→R N}(hf:EW f){l:Fo}(hl:l.ok){op:Int}{tx:lU}(ht:tx.length≤100000)(he:Bk f l=.ok ks):NW l ⟨op,ln,co,tx,nm,ks⟩:=by
 obtain⟨e1,e2,_⟩:=I0 hf l ks hl he;refine⟨ht,e1,?_⟩;simp only;omega
theorem UA:EW IY:=λt k a ht _ h=>by
 unfold IY at h
 cases h
 split
 · exact fP (t:=t) (Nat.zero_le _)
 · exact fP (t:=t) ht.2
theorem XA:∀n,EW (DW n)
 |0=>λ_ _ _ _ _ h=>by cases h
 |n+1=>λt k a ht hk h=>by
   have ih:=XA n;unfold DW at h;simp only[need] at h
   repeat' (split at h)
   all_goals first
     |(cases h;done)
     |exact UA t _ a ht hk h
     |(cases h;first|exact fP (t:=t) (Nat.zero_le _)|exact fP (t:=t) ht.2|exact pP ih hk (Nat.zero_le _) (by assumption)|exact pP ih hk hk.1.2 (by assumption))
theorem Q0{t:AK}:∀(x:Nd)(o:N),x.txb→FW t x=some o→o.tx.length≤100000∧o.kids.txb∧o.kids.size+2≤x.size+x.len
 |.nil,_,_,h=>by cases h
 |.cons op ln co tx nm kids .nil,o,hb,h=>by
   unfold FW at h
   cases h
   exact⟨hb.1,hb.2.1,by simp only[Nd.size,Nd.len];omega⟩
 |.cons op ln co tx nm kids (.cons a b c d e f r),o,hb,h=>by
   unfold FW at h;simp only at h
   cases hr:FW t (.cons a b c d e f r) with
   |none=>rw[hr] at h;cases h
   |some q =>
     rw[hr] at h
     cases h
     obtain⟨h1,h2,h3⟩:=Q0 (.cons a b c d e f r) q hb.2.2 hr;refine⟨by simp[Az],⟨hb.1,hb.2.1,h1,h2,tQ⟩,?_⟩;simp only[Az,N.one,N.cons,Nd.size,Nd.len] at h3 ⊢;omega
theorem Jf{α:Type}{t:AK}{b:Bool}{x:R α}{a:α}(h:need t b x=.ok a):b=true∧x=.ok a:=by
 unfold need at h
 split at h
 · rename_i hb;exact⟨hb,h⟩
 · cases h
theorem TZ:∀n,EW (Dt n)
 |0=>λ_ _ _ _ _ h=>by cases h
 |n+1=>λt k a ht hk h=>by
   have ih:=TZ n;unfold Dt at h
   by_cases hk0:(t.k==0)=true
   · rw[if_pos hk0] at h
     split at h
     · cases h
     rename_i hd hkk l;simp only at h
     by_cases hw:hd.isWord [45,62]=true
     · rw[if_pos hw] at h
       obtain⟨_,h⟩:=Jf h
       split at h
       · cases h
       rename_i ks he;obtain⟨e1,e2,e3⟩:=I0 ih l ks hk.2.2.2 he
       split at h
       · rename_i o ho
         cases h
         obtain⟨h1,h2,h3⟩:=Q0 ks _ e1 ho;exact⟨h1,h2,by simp only[Fo.sz];omega⟩
       · cases h
     · rw[if_neg hw] at h
       obtain⟨_,h⟩:=Jf h
       split at h
       · cases h
       rename_i ks he
       cases h
       exact pP ih hk hk.1.2 he
   · rw[if_neg hk0] at h
     split at h
     · cases h;exact fP (t:=t) ht.2
     · obtain⟨_,h⟩:=Jf h
       cases h;exact fP (t:=t) ht.2
theorem nI{ex:AK→Fo→R N}(hex:EW ex):EW (GS n ex):=λt k a ht hk h=>by
 unfold GS at h
 split at h
 · rename_i p pk b bk
   obtain⟨_,h⟩:=Jf h
   split at h
   · cases h
   rename_i q h1;obtain⟨_,h⟩:=Jf h
   split at h
   · cases h
   rename_i x h3
   cases h
   have h1:=XA n _ _ _ hk.1 hk.2.1 h1;have h3:=hex _ _ _ hk.2.2.2.1 hk.2.2.2.2.1 h3;refine⟨by simp[Az],⟨h1.tx,h1.kt,h3.tx,h3.kt,tQ⟩,?_⟩;have:=h1.sz;have:=h3.sz;simp only[Az,N.one,N.cons,Nd.size,Fo.sz];omega
 · cases h
theorem P1:∀{x y:Nd},x.txb→y.txb→(x.app y).txb
 |.nil,_,_,h=>h
 |.cons _ _ _ _ _ _ _,_,h,hy=>⟨h.1,h.2.1,P1 h.2.2 hy⟩
theorem Kk:∀(x y:Nd),(x.app y).size=x.size+y.size
 |.nil,_=>by simp[Nd.app,Nd.size]
 |.cons _ _ _ _ _ _ r,y=>by simp only[Nd.app,Nd.size,Kk r y];omega
theorem uF{x y:N}{k1 k2 k:Fo}(h1:NW k1 x)(h2:NW k2 y)(hs:k1.sz+k2.sz+2≤k.sz){op:Int}{tx:lU}(ht:tx.length≤100000):NW k ⟨op,ln,co,tx,nm,x.cons y.one⟩:=by
 refine⟨ht,⟨h1.tx,h1.kt,h2.tx,h2.kt,tQ⟩,?_⟩;have:=h1.sz;have:=h2.sz;simp only[N.one,N.cons,Nd.size];omega
theorem tM{x:N}{k1 k:Fo}(h1:NW k1 x)(hs:k1.sz+1≤k.sz){op:Int}{tx:lU}(ht:tx.length≤100000):NW k ⟨op,ln,co,tx,nm,x.one⟩:=by
 refine⟨ht,⟨h1.tx,h1.kt,tQ⟩,?_⟩;have:=h1.sz;simp only[N.one,N.cons,Nd.size];omega
theorem cV{ex:AK→Fo→R N}(hex:EW ex){t:AK}{w:lU}{l:Fo}{a:N}(hl:l.ok)(h:Bj n ex t w l=.ok a):NW l a:=by
 unfold Bj at h;simp only[need] at h
 split at h
 · split at h
   · split at h
     · split at h
       · cases h
       rename_i hs h1
       split at h
       · cases h
       rename_i x h3
       cases h
       obtain⟨e1,e2,_⟩:=I0 UA _ _ hl.2.1 h1;have hx:=hex _ _ _ hl.2.2.2.1 hl.2.2.2.2.1 h3;refine⟨by simp[Az],P1 e1 ⟨hx.tx,hx.kt,tQ⟩,?_⟩;have:=hx.sz;simp only[Az,Kk,N.one,N.cons,Nd.size,Fo.sz];omega
     · cases h
   · cases h
 split at h
 · split at h
   · split at h
     · split at h
       · cases h
       rename_i x h1
       split at h
       · cases h
       rename_i y h3
       cases h
       exact uF (hex _ _ _ hl.2.2.2.1 hl.2.2.2.2.1 h1) (hex _ _ _ hl.2.2.2.2.2.2.1 hl.2.2.2.2.2.2.2.1 h3) (by simp only[Fo.sz];omega) hl.1.2
     · cases h
   · cases h
 split at h
 · split at h
   · split at h
     · split at h
       · cases h
       rename_i x h1
       split at h
       · cases h
       rename_i y h3
       cases h
       exact uF (hex _ _ _ hl.2.2.2.1 hl.2.2.2.2.1 h1) (hex _ _ _ hl.2.2.2.2.2.2.1 hl.2.2.2.2.2.2.2.1 h3) (by simp only[Fo.sz];omega) hl.1.2
     · cases h
   · cases h
 iterate 3
   split at h
   · split at h
     · split at h
       · cases h
       rename_i ks h1
       cases h
       exact wB hex hl (Nat.zero_le _) h1
     · cases h
 split at h
 · split at h
   · split at h
     · cases h
     · split at h
       · cases h
       rename_i x h1
       split at h
       · cases h
       rename_i ars h3
       cases h
       have hx:=hex _ _ _ hl.1 hl.2.1 h1;obtain⟨e1,e2,_⟩:=I0 (nI hex) _ _ hl.2.2.2 h3;refine⟨by simp[Az],⟨hx.tx,hx.kt,e1⟩,?_⟩;have:=hx.sz;simp only[Az,N.cons,Nd.size,Fo.sz];omega
   · cases h
 split at h
 · split at h
   · split at h
     · cases h
     rename_i x h1
     cases h
     exact tM (hex _ _ _ hl.1 hl.2.1 h1) (by simp only[Fo.sz];omega) (Nat.zero_le _)
   · cases h
 · cases h
theorem pS{h:AK}{l:Fo}{a:N}(h1:NW l a):NW (.cons h hk l) a:=⟨h1.tx,h1.kt,by have:=h1.sz;simp only[Fo.sz];omega⟩
theorem MC:∀n,EW (Cd n)
 |0=>λ_ _ _ _ _ h=>by cases h
 |n+1=>λt k a ht hk h=>by
   have ih:=MC n;unfold Cd at h;simp only[need] at h
   repeat' (split at h)
   all_goals first
     |(cases h;done)
     |exact pS (cV ih hk.2.2.2 h)
     |(cases h;first|exact fP (t:=t) (Nat.zero_le _)|exact fP (t:=t) ht.2|exact pP ih hk hk.1.2 (by assumption)|exact wB ih hk (Nat.zero_le _) (by assumption))
theorem eN(n:Nat):EW (H6 n):=λt k a ht hk h=>by
 unfold H6 at h;simp only[need] at h
 repeat' (split at h)
 all_goals first
   |(cases h;done)
   |(cases h;exact pP (TZ n) hk hk.1.2 (by assumption))
theorem Sm:∀(k:Fo)(x:Nd),k.ok→BW k=some x→x.txb∧x.size≤k.sz
 |.nil,x,_,h=>by cases h;exact⟨tQ,Nat.le_refl _⟩
 |.cons v _ r,x,hk,h=>by
   unfold BW at h
   split at h
   · cases hr:BW r with
     |none=>rw[hr] at h;cases h
     |some y =>
       rw[hr] at h
       cases h
       have:=Sm r y hk.2.2.2 hr;exact⟨⟨hk.1.2,tQ,this.1⟩,by simp only[Az,N.cons,Nd.size,Fo.sz];omega⟩
   · cases h
theorem jC(n:Nat):EW (CB n):=λt k a ht hk h=>by
 unfold CB at h;simp only[need] at h
 split at h
 · cases h
 rename_i hd hkk l;have hl:=hk.2.2.2
 split at h
 · split at h
   · split at h
     · split at h
       · split at h
         · cases h
         rename_i vs hv
         split at h
         · cases h
         rename_i cs h1
         cases h
         obtain⟨e1,e2⟩:=Sm _ _ hl.2.2.2.2.1 hv;obtain⟨e3,e4,_⟩:=I0 (eN n) _ _ hl.2.2.2.2.2.2 h1;refine⟨hl.1.2,P1 e1 e3,?_⟩;simp only[Az,Kk,Fo.sz] at e4 ⊢;omega
       · cases h
     · cases h
   split at h
   · split at h
     · split at h
       · split at h
         · cases h
         rename_i x h1
         split at h
         · cases h
         rename_i y h3
         cases h
         exact uF (TZ n _ _ _ hl.2.2.2.1 hl.2.2.2.2.1 h1) (MC n _ _ _ hl.2.2.2.2.2.2.1 hl.2.2.2.2.2.2.2.1 h3) (by simp only[Fo.sz];omega) hl.1.2
       · cases h
     · cases h
   split at h
   · split at h
     · split at h
       · split at h
         · cases h
         rename_i x h1
         cases h
         exact tM (MC n _ _ _ hl.2.2.2.1 hl.2.2.2.2.1 h1) (by simp only[Fo.sz];omega) hl.1.2
       · cases h
     · cases h
   split at h
   · split at h
     · split at h
       · split at h
         · cases h
         rename_i x h1
         cases h
         exact tM (MC n _ _ _ hl.2.2.2.1 hl.2.2.2.2.1 h1) (by simp only[Fo.sz];omega) hl.1.2
       · cases h
     · cases h
   split at h
   · split at h
     · split at h
       · cases h
       rename_i x h1
       cases h
       exact tM (MC n _ _ _ hl.1 hl.2.1 h1) (by simp only[Fo.sz];omega) (Nat.zero_le _)
     · cases h
   · cases h
 · cases h
def EX(f:AK→Fo→R N):Prop:=∀t k a,f t k=.ok a→Gx a.op a.kids
theorem KL{f:AK→Fo→R N}(hf:EX f):∀(fo:Fo)(x:Nd),Bk f fo=.ok x→x.wfm 0
 |.nil,x,h=>by cases h;exact .inl rfl
 |.cons t k r,x,h=>by
   unfold Bk at h
   split at h
   · cases h
   rename_i a h1
   split at h
   · cases h
   rename_i b h2
   cases h
   exact⟨hf t k a h1,KL hf r b h2⟩
theorem Ja{f:AK→Fo→R N}:∀(fo:Fo)(x:Nd),Bk f fo=.ok x→x.len=fo.len
 |.nil,x,h=>by cases h;rfl
 |.cons t k r,x,h=>by
   unfold Bk at h
   split at h
   · cases h
   split at h
   · cases h
   rename_i b h2
   cases h
   simp only[N.cons,Nd.len,Fo.len,Ja r b h2]
def PX(f:AK→Fo→R N):Prop:=∀t k a,f t k=.ok a→(21≤a.op∧a.op≤27)∧a.kids.wfm 9
theorem Ye{f:AK→Fo→R N}(hf:PX f):∀(fo:Fo)(x:Nd),Bk f fo=.ok x→x.wfm 9
 |.nil,x,h=>by cases h;exact .inr (.inr rfl)
 |.cons t k r,x,h=>by
   unfold Bk at h
   split at h
   · cases h
   rename_i a h1
   split at h
   · cases h
   rename_i b h2
   cases h
   exact⟨hf t k a h1,Ye hf r b h2⟩
theorem Z6:∀n,PX (DW n)
 |0=>λt k a h=>by cases h
 |n+1=>λt k a h=>by
   unfold DW at h;simp only[need,IY] at h
   repeat' (split at h)
   all_goals first
     |(cases h;done)
     |(cases h;exact⟨⟨by simp[Az],by simp[Az]⟩,.inr (.inr rfl)⟩)
     |(rename_i h3;cases h;exact⟨⟨by simp[Az],by simp[Az]⟩,Ye (Z6 n) _ _ h3⟩)
theorem YB{ex:AK→Fo→R N}(hex:EX ex):∀(fo:Fo)(x:Nd),Bk (GS n ex) fo=.ok x→x.wfm 1
 |.nil,x,h=>by cases h;exact .inr (.inl rfl)
 |.cons t k r,x,h=>by
   unfold Bk at h
   split at h
   · cases h
   rename_i a h1
   split at h
   · cases h
   rename_i b h2
   cases h
   refine⟨?_,YB hex r b h2⟩;unfold GS at h1;simp only[need] at h1
   repeat' (split at h1)
   all_goals first
     |(cases h1;done)
     |(rename_i h4 _ _ _ h3;cases h1;exact⟨Z6 n _ _ _ h4,hex _ _ _ h3⟩)
theorem rE:∀(hs:Nd){x:N},Gx x.op x.kids→(hs.app x.one).wfm 4
 |.nil,x,h=>.inl ⟨rfl,h⟩
 |.cons op ln co tx nm k r,x,h=>by
   refine .inr ⟨?_,rE r h⟩
   cases r <;> simp[Nd.app,N.one,N.cons]
theorem eH:∀{x:Nd},x.wfm 0→x.len=3→x.wfm 7
 |.cons _ _ _ _ _ _ (.cons _ _ _ _ _ _ (.cons _ _ _ _ _ _ .nil)),h,_=>⟨h.1,h.2.1,h.2.2.1⟩
 |.nil,_,h=>by cases h
 |.cons _ _ _ _ _ _ .nil,_,h=>by cases h
 |.cons _ _ _ _ _ _ (.cons _ _ _ _ _ _ .nil),_,h=>by cases h
 |.cons _ _ _ _ _ _ (.cons _ _ _ _ _ _ (.cons _ _ _ _ _ _ (.cons _ _ _ _ _ _ _))),_,h=>by simp[Nd.len] at h
theorem eP{ex:AK→Fo→R N}(hex:EX ex){t:AK}{w:lU}{l:Fo}{a:N}(h:Bj n ex t w l=.ok a):Gx a.op a.kids:=by
 unfold Bj at h;simp only[need] at h
 split at h
 · repeat' (split at h)
   all_goals first
     |(cases h;done)
     |(rename_i h3;cases h;exact .inr (.inr (.inl ⟨rfl,rE _ (hex _ _ _ h3)⟩)))
 split at h
 · repeat' (split at h)
   all_goals first
     |(cases h;done)
     |(rename_i h1 _ _ h3;cases h;exact .inr (.inr (.inr (.inr (.inl ⟨.inl rfl,hex _ _ _ h1,hex _ _ _ h3⟩)))))
 split at h
 · repeat' (split at h)
   all_goals first
     |(cases h;done)
     |(rename_i h1 _ _ h3;cases h;exact .inr (.inr (.inr (.inr (.inl ⟨.inr rfl,hex _ _ _ h1,hex _ _ _ h3⟩)))))
 split at h
 · split at h
   · rename_i hn
     split at h
     · cases h
     rename_i ks h1
     cases h
     have e:=Ja _ _ h1;have hn:=beq_iff_eq.1 hn;exact .inr (.inr (.inr (.inr (.inr (.inl ⟨rfl,eH (KL hex _ _ h1) (show ks.len=3 by omega)⟩)))))
   · cases h
 split at h
 · split at h
   · rename_i hn
     split at h
     · cases h
     rename_i ks h1
     cases h
     have e:=Ja _ _ h1;have hn:=of_decide_eq_true hn;exact .inr (.inr (.inr (.inl ⟨.inr rfl,by show 0<ks.len;omega,KL hex _ _ h1⟩)))
   · cases h
 split at h
 · split at h
   · split at h
     · cases h
     rename_i ks h1
     cases h
     exact .inr (.inr (.inr (.inr (.inr (.inr (.inl ⟨rfl,KL hex _ _ h1⟩))))))
   · cases h
 split at h
 · split at h
   · rename_i hn
     split at h
     · cases h
     · split at h
       · cases h
       rename_i x h1
       split at h
       · cases h
       rename_i ars h3
       cases h
       have e:=Ja _ _ h3;have hn:=of_decide_eq_true hn;simp only[Fo.len] at hn;refine .inr (.inr (.inr (.inr (.inr (.inr (.inr (.inl ⟨?_,hex _ _ _ h1,by show 0<ars.len;omega,YB hex _ _ h3⟩)))))));simp only[Az]
       split
       · exact .inr rfl
       · exact .inl rfl
   · cases h
 split at h
 · split at h
   · split at h
     · cases h
     rename_i x h1
     cases h
     refine .inr (.inr (.inr (.inr (.inr (.inr (.inr (.inr ⟨?_,hex _ _ _ h1⟩)))))));simp only[Az]
     split
     · exact .inr rfl
     · exact .inl rfl
   · cases h
 · cases h
theorem Mi:∀n,EX (Cd n)
 |0=>λ_ _ _ h=>by cases h
 |n+1=>λt k a h=>by
   have ih:=Mi n;unfold Cd at h;simp only[need] at h
   iterate 4
     split at h
     · cases h;first|exact .inr (.inl ⟨rfl,.inl rfl⟩)|exact .inl (by simp[Az])
   split at h
   · split at h
     · cases h;exact .inl (by simp[Az])
     · cases h
   split at h
   · cases h;exact .inl (by simp[Az])
   split at h
   · split at h
     · split at h
       · cases h
       rename_i ks h1
       cases h
       exact .inr (.inl ⟨rfl,KL ih _ _ h1⟩)
     · cases h
   split at h
   · exact eP ih h
   · split at h
     · split at h
       · cases h
       rename_i ks h1
       cases h
       have e:=Ja _ _ h1;exact .inr (.inr (.inr (.inl ⟨.inl rfl,by show 0<ks.len;rw[e];exact Nat.succ_pos _,KL ih _ _ h1⟩)))
     · cases h
theorem jJ{t:AK}{k:Fo}{a:N}(h:CB n t k=.ok a):a.op=41∨(a.op=43∧a.kids.wfm 2)∨((a.op=44∨a.op=45∨a.op=46)∧a.kids.wfm 3):=by
 unfold CB at h;simp only[need] at h
 split at h
 · cases h
 split at h
 · split at h
   · repeat' (split at h)
     all_goals first
       |(cases h;done)
       |(cases h;exact .inl rfl)
   split at h
   · repeat' (split at h)
     all_goals first
       |(cases h;done)
       |(rename_i h3;cases h;exact .inr (.inl ⟨rfl,Mi n _ _ _ h3⟩))
   split at h
   · repeat' (split at h)
     all_goals first
       |(cases h;done)
       |(rename_i h3;cases h;exact .inr (.inr ⟨.inl rfl,Mi n _ _ _ h3⟩))
   split at h
   · repeat' (split at h)
     all_goals first
       |(cases h;done)
       |(rename_i h3;cases h;exact .inr (.inr ⟨.inr (.inl rfl),Mi n _ _ _ h3⟩))
   split at h
   · repeat' (split at h)
     all_goals first
       |(cases h;done)
       |(rename_i h3;cases h;exact .inr (.inr ⟨.inr (.inr rfl),Mi n _ _ _ h3⟩))
   · cases h
 · cases h
theorem Xy:∀(fo:Fo)(x:Nd),Bk (CB n) fo=.ok x→x.wft
 |.nil,x,h=>by cases h;trivial
 |.cons t k r,x,h=>by
   unfold Bk at h
   split at h
   · cases h
   rename_i a h1
   split at h
   · cases h
   rename_i b h2
   cases h
   exact⟨jJ h1,Xy r b h2⟩
theorem PC:∀(a:Fo)(t:AK)(k:Fo),(a.snoc t k).sz=a.sz+k.sz+1
 |.nil,_,_=>by simp[Fo.snoc,Fo.sz]
 |.cons _ _ r,t,k=>by simp only[Fo.snoc,Fo.sz,PC r t k];omega
def Vt:List (AK×Fo)→Nat
 | []=>0
 |(_,p)::s=>p.sz+1+Vt s
theorem Ks:∀(l:List AK)(st:List (AK×Fo))(cur fo:Fo),Bn l st cur=.ok fo→fo.sz≤Vt st+cur.sz+l.length
 | [],[],cur,fo,h=>by simp only[Bn] at h;cases h;simp[Vt]
 | [],(o,p)::s,cur,fo,h=>by unfold Bn at h;split at h <;> cases h
 |k::l,st,cur,fo,h=>by
   unfold Bn at h
   split at h
   · split at h
     · cases h
     · have:=Ks l _ _ _ h
       simp only[Vt,Fo.sz,List.length_cons] at this ⊢;omega
   · split at h
     · cases st with
       |nil=>cases h
       |cons op s =>
         have:=Ks l _ _ _ h;simp only[Vt,PC,List.length_cons] at this ⊢;omega
     · have:=Ks l _ _ _ h
       simp only[PC,Fo.sz,List.length_cons] at this ⊢;omega
structure vW(nds:Nd):Prop where
 wft:nds.wft
 txb:nds.txb
 size:nds.size≤200000
theorem dZ(n:Nat)(src:lU):vW (Kw n (Lf src)).1:=by
 unfold Kw
 cases hl:Lf src with
 |error e=>exact⟨tQ,tQ,Nat.zero_le _⟩
 |ok toks =>
   obtain⟨h1,h2⟩:=Va hl;simp only
   cases ht:Bn toks [] .nil with
   |error e=>exact⟨tQ,tQ,Nat.zero_le _⟩
   |ok fo =>
     simp only
     cases he:Bk (CB n) fo with
     |error e=>exact⟨tQ,tQ,Nat.zero_le _⟩
     |ok nds =>
       have h3:=(GM toks 0 [] .nil fo h2 oM (by simp) tQ tQ (by simp[Fo.len]) (by rfl) ht).1;have h4:=Ks toks [] .nil fo ht;obtain⟨e1,e2,_⟩:=I0 (jC n) fo nds h3 he;simp only[Vt,Fo.sz] at h4;exact⟨Xy fo nds he,e1,by show nds.size≤_;omega⟩
theorem Xe{a b:Int}:((a,b,11):Er).2.2≠0:=(by decide:(11:Int)≠0)
theorem e4{a b:Int}:((a,b,4):Er).2.2≠0:=(by decide:(4:Int)≠0)
theorem bL{b:BT}{n:Int}{t:T1}{x:Int}(h:Ck b n t=.error x):x≠0:=by
 unfold Ck at h
 repeat' split at h
 all_goals (cases h;try decide)
theorem Od{f:BT→Ty→Ty→Except Int BT}(hf:∀ {b x y e},f b x y=.error e→e≠0){b:BT}{x y:T1}{r q:Ty}{e:Int}(h:HX f b x y r q=.error e):e≠0:=by
 unfold HX at h
 repeat' split at h
 all_goals first
   |exact hf h
   |(cases h;first|decide|exact bL (by assumption))
theorem Ld:∀(k:Nat){b:BT}{x y:Ty}{e:Int},Lp k b x y=.error e→e≠0
 |k,b,.nil,y,e,h=>by cases k <;> cases h
 |0,b,.var _ _,y,e,h=>by cases h;decide
 |0,b,.con _ _ _,y,e,h=>by cases h;decide
 |k+1,b,.var n r,y,e,h=>Od (Ld k) h
 |k+1,b,.con tx ka r,y,e,h=>Od (Ld k) h
section
variable{s:CS}{e:Bb}{ln co:Int}{tx:lU}{t u:T1}{x:Er}
theorem Hi(h:EP s t u ln co=.error x):x.2.2≠0:=by
 unfold EP at h
 split at h
 · rename_i h1;cases h;exact Ld _ h1
 · cases h
theorem KA(h:G1 s t ln co=.error x):x.2.2≠0:=by
 unfold G1 at h
 split at h
 · cases h;first|exact Xe|exact e4
 · cases h
theorem Ph{v:Bool}(h:GA s e tx t v ln co=.error x):x.2.2≠0:=by
 unfold GA at h
 repeat' split at h
 · rename_i h1;cases h;exact KA h1
 · cases h
 · cases h
variable {k:Nat}
theorem UW(h:Ij s tx k ln co=.error x):x.2.2≠0:=by
 unfold Ij at h
 repeat' split at h
 all_goals (cases h;try exact Xe)
theorem bG(h:GZ s e tx ln co=.error x):x.2.2≠0:=by
 unfold GZ at h
 repeat' split at h
 · cases h;first|exact Xe|exact e4
 · rename_i h1;cases h;exact KA h1
 · cases h
end
def wI(p:LA):Prop:=∀{s e op ln co tx nm k x},p s e op ln co tx nm k=.error x→x.2.2≠0
def wH(p:Mj):Prop:=∀{s e op ln co tx nm k x},p s e op ln co tx nm k=.error x→x.2.2≠0
section
variable{p:LA}(hp:wI p)
include hp
theorem PT{e:Bb}:∀(k:Nd){s:CS}{x:Er},Ea p e s k=.error x→x.2.2≠0
 |.nil,_,_,h=>by cases h
 |.cons op ln co tx nm k r,s,x,h=>by
   unfold Ea at h
   split at h
   · rename_i h1;cases h;exact hp h1
   · split at h
     · rename_i h2;cases h;exact PT r h2
     · cases h
theorem U8{e:Bb}:∀(k:Nd){s:CS}{l:Ty}{x:Er},FY p e s l k=.error x→x.2.2≠0
 |.nil,_,_,_,h=>by cases h
 |.cons op ln co tx nm k r,s,l,x,h=>by
   unfold FY at h
   split at h
   · rename_i h1;cases h;exact hp h1
   · split at h
     · rename_i h2;cases h;exact Hi h2
     · exact U8 r h
theorem Yd{e:Bb}:∀(k:Nd){s:CS}{t:T1}{x:Er},J6 p e s t k=.error x→x.2.2≠0
 |.nil,_,_,_,h=>by cases h
 |.cons op ln co tx nm k r,s,t,x,h=>by
   unfold J6 at h
   split at h
   · rename_i h1;cases h;exact hp h1
   · split at h
     · rename_i h2;cases h;exact Hi h2
     · exact Yd r h
theorem Xg{s:CS}{e:Bb}{ln co o l c m:Int}{tx x:lU}{k:Nd}{y:Er}(h:GQ p s e ln co tx o l c x m k=.error y):y.2.2≠0:=by
 unfold GQ at h
 split at h
 · rename_i h1;cases h;exact hp h1
 · split at h
   · rename_i h2;cases h;exact Hi h2
   · cases h
omit hp
variable{q:Mj}(hq:wH q)
include hq
theorem QL:∀(k:Nd){s:CS}{e:Bb}{l:Ty}{x:Er},FZ q s e l k=.error x→x.2.2≠0
 |.nil,_,_,_,_,h=>by cases h
 |.cons op ln co tx nm k r,s,e,l,x,h=>by
   unfold FZ at h
   split at h
   · rename_i h1;cases h;exact hq h1
   · split at h
     · rename_i h2;cases h;exact Hi h2
     · exact QL r h
theorem Rt:∀(k:Nd){s:CS}{e:Bb}{x:Er},Fb q s e k=.error x→x.2.2≠0
 |.nil,_,_,_,h=>by cases h
 |.cons op ln co tx nm k r,s,e,x,h=>by
   unfold Fb at h
   split at h
   · rename_i h1;cases h;exact hq h1
   · split at h
     · rename_i h2;cases h;exact Rt r h2
     · cases h
theorem dD{s:CS}{e:Bb}{op ln co:Int}{tx:lU}{k:Nd}{x:Er}(h:CV q s e op ln co tx k=.error x):x.2.2≠0:=by
 unfold CV at h
 repeat' (split at h)
 all_goals first
   |(cases h;done)
   |(cases h;first|exact UW (by assumption)|exact QL hq _ (by assumption)|exact Rt hq _ (by assumption))
omit hq
theorem XY:∀n,wH (Cm n)
 |0=>λh=>by cases h;first|exact Xe|exact e4
 |n+1=>λh=>by
   unfold Cm at h
   split at h
   · rename_i h1;cases h;exact dD (XY n) h1
   · split at h
     · rename_i h1;cases h;exact KA h1
     · cases h
include hp
theorem LX{e:Bb}{pt:T1}:∀(k:Nd){s:CS}{t:Option T1}{x:Er},Dw n p e pt s t k=.error x→x.2.2≠0
 |.nil,_,_,_,h=>by unfold Dw at h;cases h
 |.cons _ _ _ _ _ ks r,s,t,x,h=>by
   unfold Dw at h
   split at h
   · split at h
     · rename_i h1;cases h;exact XY _ h1
     · split at h
       · rename_i h1;cases h;exact Hi h1
       · split at h
         · rename_i h1;cases h;exact hp h1
         · split at h
           · split at h
             · rename_i h1;cases h;exact Hi h1
             · exact LX r h
           · exact LX r h
   · cases h
theorem dR{s:CS}{e:Bb}{op ln co:Int}{tx:lU}{k:Nd}{x:Er}(h:Bi n p s e op ln co tx k=.error x):x.2.2≠0:=by
 unfold Bi at h
 by_cases o1:(op==1)=true
 · rw[if_pos o1] at h
   cases h
 rw[if_neg o1] at h
 by_cases o2:(op==2)=true
 · rw[if_pos o2] at h
   cases h
 rw[if_neg o2] at h
 by_cases o3:(op==3)=true
 · rw[if_pos o3] at h
   cases h
 rw[if_neg o3] at h
 by_cases o4:(op==4)=true
 · rw[if_pos o4] at h
   cases h
 rw[if_neg o4] at h
 by_cases o5:(op==5)=true
 · rw[if_pos o5] at h
   exact bG h
 rw[if_neg o5] at h
 by_cases o6:(op==6)=true
 · rw[if_pos o6] at h
   split at h
   · rename_i h1;cases h;exact UW h1
   split at h
   · rename_i h1;cases h;exact U8 hp _ h1
   cases h
 rw[if_neg o6] at h
 by_cases o7:(op==7)=true
 · rw[if_pos o7] at h
   split at h
   · cases h
   simp only at h
   split at h
   · rename_i h1;cases h;exact hp h1
   cases h
 rw[if_neg o7] at h
 by_cases o8:(op==8)=true
 · rw[if_pos o8] at h
   split at h
   · cases h
   split at h
   · rename_i h1;cases h;exact hp h1
   exact Yd hp _ h
 rw[if_neg o8] at h
 by_cases o9:(op==9)=true
 · rw[if_pos o9] at h
   split at h
   · split at h
     · rename_i h1;cases h;exact hp h1
     split at h
     · rename_i h1
       cases h
       split at h1
       · cases h1
       · exact Ph h1
     exact hp h
   · cases h
 rw[if_neg o9] at h
 by_cases o10:(op==10)=true
 · rw[if_pos o10] at h
   split at h
   · split at h
     · rename_i h1;cases h;exact Xg hp h1
     split at h
     · rename_i h1;cases h;exact Ph h1
     exact hp h
   · cases h
 rw[if_neg o10] at h
 by_cases o11:(op==11)=true
 · rw[if_pos o11] at h
   split at h
   · split at h
     · rename_i h1;cases h;exact hp h1
     split at h
     · rename_i h1;cases h;exact Hi h1
     split at h
     · rename_i h1;cases h;exact hp h1
     split at h
     · rename_i h1;cases h;exact hp h1
     split at h
     · rename_i h1;cases h;exact Hi h1
     cases h
   · cases h
 rw[if_neg o11] at h
 by_cases o12:(op==12)=true
 · rw[if_pos o12] at h
   split at h
   · rename_i h1;cases h;exact PT hp _ h1
   cases h
 rw[if_neg o12] at h
 by_cases o13:(op==13)=true
 · rw[if_pos o13] at h
   split at h
   · rename_i h1;cases h;exact PT hp _ h1
   cases h
 rw[if_neg o13] at h
 by_cases o14:(op==14)=true
 · rw[if_pos o14] at h
   split at h
   · cases h
   split at h
   · rename_i h1;cases h;exact hp h1
   exact LX hp _ h
 rw[if_neg o14] at h
 by_cases o15:(op==15)=true
 · rw[if_pos o15] at h
   split at h
   · cases h
   split at h
   · rename_i h1;cases h;exact hp h1
   exact LX hp _ h
 rw[if_neg o15] at h
 by_cases o16:(op==16)=true
 · rw[if_pos o16] at h
   split at h
   · cases h
   split at h
   · rename_i h1;cases h;exact hp h1
   split at h
   · rename_i h1;cases h;exact Hi h1
   cases h
 rw[if_neg o16] at h
 split at h
 · cases h
 exact hp h
omit hp
theorem Ta:∀n,wI (Cb n)
 |0=>λh=>by cases h;first|exact Xe|exact e4
 |n+1=>λh=>by
   unfold Cb at h
   split at h
   · rename_i h1;cases h;exact dR (Ta n) h1
   · split at h
     · rename_i h1;cases h;exact KA h1
     · cases h
end
theorem PK{d:List (lU×Int)}{v:List (lU×T1)}:∀(k:Nd){x:Er},FR d v k=.error x→x.2.2≠0
 |.nil,_,h=>by cases h
 |.cons op ln co tx nm k r,x,h=>by
   have ih1:=λ{x:Er}=>PK (d:=d) (v:=v) k (x:=x);have ih2:=λ{x:Er}=>PK (d:=d) (v:=v) r (x:=x);rw[Ju] at h
   split at h
   · rename_i h1
     cases h
     unfold CD at h1
     split at h1
     · split at h1
       · cases h1
       · cases h1;exact Xe
     · split at h1
       · split at h1
         · rename_i h2;cases h1;exact ih1 h2
         · cases h1
       · cases h1;exact Xe
   · split at h
     · rename_i h2;cases h;exact ih2 h2
     · cases h
theorem NC{ln co:Int}:∀(k:Nd){v:Int}{m:List (lU×T1)}{self:Ty}{nums:List Int}{x:Er},DY ln co k v m self nums=.error x→x.2.2≠0
 |.nil,_,_,_,_,_,h=>by cases h
 |.cons op _ _ tx _ _ r,v,m,self,nums,x,h=>by
   unfold DY at h
   repeat' (split at h)
   · cases h;first|exact Xe|exact e4
   · exact NC r h
   · exact NC r h
theorem MR{d:List (lU×Int)}{m:List (lU×T1)}{out:T1}{nums:List Int}:∀(k:Nd){c:List (lU×Mk)}{x:Er},Dz d m out nums k c=.error x→x.2.2≠0
 |.nil,_,_,h=>by cases h
 |.cons op ln co tx _ kids r,c,x,h=>by
   unfold Dz at h
   repeat' (split at h)
   · cases h;first|exact Xe|exact e4
   · rename_i h1;cases h;exact PK _ h1
   · exact MR r h
   · exact MR r h
theorem dE{s:CS}{ln co:Int}{tx:lU}{k:Nd}{x:Er}(h:G3 s ln co tx k=.error x):x.2.2≠0:=by
 unfold G3 at h
 split at h
 · cases h;first|exact Xe|exact e4
 · split at h
   · rename_i h1;cases h;exact NC _ h1
   · simp only at h
     split at h
     · rename_i h1;cases h;exact MR _ h1
     · cases h
theorem jI{s:CS}{e:Bb}{op ln co:Int}{tx:lU}{k:Nd}{x:Er}(h:Dq s e op ln co tx k=.error x):x.2.2≠0:=by
 unfold Dq at h
 repeat' (split at h)
 all_goals first
   |(cases h;done)
   |(cases h;first|exact Xe|exact dE (by assumption)|exact PK _ (by assumption)|exact Ta _ (by assumption)|exact Hi (by assumption)|exact Xg (Ta _) (by assumption)|exact Ph (by assumption))
theorem Px:∀(k:Nd){s:CS}{e:Bb}{out:List (lU×T1)}{x:Er},Ec s e k out=.error x→x.2.2≠0
 |.nil,_,_,_,_,h=>by cases h
 |.cons op ln co tx nm k r,s,e,out,x,h=>by
   unfold Ec at h
   split at h
   · rename_i h1;cases h;exact jI h1
   · exact Px r h
   · exact Px r h
theorem YX{s:CS}:∀{l:List (lU×T1)}{x:Er},JO s l=.error x→x.2.2≠0
 | [],_,h=>by cases h
 |(n,t)::l,x,h=>by
   unfold JO at h
   split at h
   · rename_i h1;cases h;exact KA h1
   · split at h
     · rename_i h1;cases h;exact YX h1
     · cases h
theorem ZE{k:Nd}{x:Er}(h:CA k=.error x):x.2.2≠0:=by
 unfold CA at h
 split at h
 · rename_i h1;cases h;exact Px k h1
 · exact YX h
end Go.SP
namespace Go.Proofs.YtelmolopaolbcaaGreatDoor
open Go.SW Go.SP Go.RowKit Go.Proofs.Tryz
abbrev RB:=RI (List (lU×lU))
def NH(src:lU):RB:=bif (Db src).2.2.2==0 then CA (Db src).1 else .error ((Db src).2.1,(Db src).2.2.1,(Db src).2.2.2)
def cK:RB→Int×Int×Int
 |.error e=>e
 |.ok _=>(0,0,0)
def oW:RB→List (lU×lU)
 |.error _=>[]
 |.ok l=>l
abbrev wF(r:RB)(x:Option Addr×Nat):Value:=.tuple #[.slice x.1 (oW r).length x.2,.agg #[.int .i64 (cK r).1,.int .i64 (cK r).2.1],.int .i64 (cK r).2.2]
def wG(r:RB)(w:World)(f:Fq):Value→World→Prop:=Bx (α:=Option Addr×Nat) (wF r) (λ_=>True) (λx=>[λw f=>DI w f (oW r) x.1 x.2]) w f
variable {f:Fq}{a:Option Addr}{w w':World}{src:lU}
theorem VH.out{nds:Nd}{v:Value}(h:VH nds w f v w'):wG (CA nds) w f v w':=by
 obtain⟨f',hE,h⟩:=h
 cases hi:CA nds with
 |error er =>
   rw[hi] at h;exact⟨(none,0),f',h,tQ,hE,⟨Nat.zero_le _,.inl rfl⟩,tQ⟩
 |ok bs =>
   rw[hi] at h;obtain⟨a,c,h1,h2⟩:=h;exact⟨(a,c),f',h1,tQ,hE,h2,tQ⟩
theorem Z0(w:World)(f:Fq)(hv:Vl w f)(hG:EE w f)(nds:Nd)(na:Option Addr)(nc:Nat)(hwt:nds.wft)(hsz:nds.size≤200000)(htb:nds.txb)(hN:AD w f nds na nc) :
   Bo prog 12 #[.slice na nds.len nc] w (wG (CA nds) w f):=(Tu w f hv hG nds na nc hwt hsz htb hN).mono λ_ _ h=>VH.out h
theorem Ho(src:lU):vW (Db src).1:=dZ 200 src
theorem RP(h:(Db src).2.2.2=0):NH src=CA (Db src).1:=by unfold NH;rw[h];rfl
theorem XM(h:(Db src).2.2.2≠0):NH src=.error ((Db src).2.1,(Db src).2.2.1,(Db src).2.2.2):=by
 unfold NH;rw[show ((Db src).2.2.2==0)=false by simpa using h];rfl
theorem U6:∀(a b:Nd)(x off:Nat),NS w f (a.app b) x off→NS w f a x off
 |.nil,_,_,_,_=>trivial
 |.cons _ _ _ _ _ _ r,b,x,off,⟨h1,h2⟩=>⟨h1,U6 r b x _ h2⟩
theorem len_app:∀(a b:Nd),(a.app b).len=a.len+b.len
 |.nil,b=>(Nat.zero_add _).symm
 |.cons _ _ _ _ _ _ r,b=>by show (r.app b).len+1=r.len+1+b.len;rw[len_app r b];omega
theorem aT{a b:Nd}{x:Option Addr}{c:Nat}(h:AD w f (a.app b) x c):AD w f a x c:=by
 refine⟨by have:=h.1;rw[len_app] at this;omega,?_⟩
 cases a with
 |nil=>exact .inl rfl
 |cons op ln co tx nm k r =>
   rcases h.2 with h|⟨y,off,h1,h2⟩
   · cases h
   · exact .inr ⟨y,off,h1,U6 _ b _ _ h2⟩
theorem DI.opn{l:List (lU×lU)}{c:Nat}(h:DI w f l a c)(hl:l≠[]):∃x:Nat×Nat,a=some ⟨x.1,x.2,none⟩∧Cs w f x.1 x.2 (bC l) :=
 h.2.elim (λh=>absurd h hl) λ⟨b,off,h1,h2⟩=>⟨(b,off),h1,h2⟩
end Go.Proofs.YtelmolopaolbcaaGreatDoor
namespace Go.Proofs.YtelmolopaolbcaaGreatDoor
open Go.SW Go.SP Go.RowKit Go.Lib
section
variable{P:Program}{w:World}
variable {e t:TypeId}
theorem Pw{g:Nat}{k:IntKind}{zero:Array Value}(h:w.ShapedOpen P)(hg:g<P.globals.size)
   (h0:((begin P (λ_ _=>0) default).world.heap[g]?).bind Obj.row?=some (zero,t)) (hz:zero.size=1)
   (hb:P.buildable t=true) (hc:P.cellTypes P.depth t=some [t]) (hu:P.underlying t=some (.int k)):∃m,w.cell? ⟨g,0,none⟩=some (.int k m):=by
 obtain⟨cs,hh,hs,hr⟩:=h.1 g zero t hg h0;obtain⟨ts,hts,_,hall⟩:=hr hb;rw[hc] at hts
 cases hts
 have h1:0<cs.size:=oM;obtain⟨u,hu',hok⟩:=hall 0 cs[0] (by simp[h1]);have:u=t:=by simpa using hu'.symm
 subst this;have hcell:w.cell? ⟨g,0,none⟩=some cs[0]:=by simp[World.cell?,hh,h1]
 rw[hcell];unfold Cell.ok at hok;rw[hu] at hok
 cases hv:cs[0] with
 |int k' m =>
   rw[hv] at hok
   have hk:k'=k:=by
     simp at hok;exact hok.1
   exact⟨m,by rw[hk]⟩
 |_=>rw[hv] at hok;simp at hok
theorem It{n:String}{g:Nat}{cs:Array Value}(hg:P.globalNamed n=some g)(hv:w.var? P n=some cs)(o:Nat):w.cell? ⟨g,o,none⟩=cs.toList[o]?:=by
 rw[World.var?_cell hg hv o,Array.getElem?_toList]
theorem TC{n:String}{g:Nat}{b:Bool}(hn:P.globalNamed n=some g)(hy:(P.globals[g]?).map (·.type)=some t)(ht:P.underlying t=some .bool)(h:VarReads P w n (.lit (.bool b))):w.cell? ⟨g,0,none⟩=some (.bool b):=by
 obtain⟨g',t',cs,fuel,p,hg,hty,hvar,hd⟩:=h;obtain rfl:=Option.some.inj (hn.symm.trans hg);obtain rfl:=Option.some.inj (hy.symm.trans hty);obtain⟨b',hc,hx⟩:=DataW.trod_bool ht hd;rw[It hn hvar,hc]
 cases hx
 rfl
theorem Rg{n:String}{g:Nat}{ms}{d:DataW Unit}(hn:P.globalNamed n=some g)(hy:(P.globals[g]?).map (·.type)=some t)(ht:P.underlying t=some (.interface ms))(h:VarReads P w n d) :
   ∃v,w.cell? ⟨g,0,none⟩=some v∧(v=.nilIface∨∃te pe,v=.iface te pe):=by
 obtain⟨g',t',cs,fuel,p,hg,hty,hvar,hd⟩:=h;obtain rfl:=Option.some.inj (hn.symm.trans hg);obtain rfl:=Option.some.inj (hy.symm.trans hty);rw[It hn hvar]
 cases fuel with
 |zero=>simp[DataW.trod] at hd
 |succ fuel =>
   unfold DataW.trod at hd;rw[ht] at hd;generalize cs.toList=l at hd
   split at hd
   all_goals first
     |(rename_i heq;cases heq;done)
     |(rename_i h1 h2;cases h1;done)
     |(exact⟨_,rfl,.inl rfl⟩)
     |(exact⟨_,rfl,.inr ⟨_,_,rfl⟩⟩)
     |cases hd
theorem S2{n:String}{g:Nat}{fs:Array Field}{f:Field}{k:IntKind}{z:Int}{ds:List (DataW Unit)}(hn:P.globalNamed n=some g)(hy:(P.globals[g]?).map (·.type)=some t)(ht:P.underlying t=some (.struct fs))
   (hf:fs[0]?=some f) (hfo:f.offset=0) (hft:P.underlying f.type=some (.int k)) (hfc:P.cellsOf f.type=1) (h:VarReads P w n (.agg (.lit (.int k z)::ds))):w.cell? ⟨g,0,none⟩=some (.int k z):=by
 obtain⟨g',t',cs,fuel,p,hg,hty,hvar,hd⟩:=h;obtain rfl:=Option.some.inj (hn.symm.trans hg);obtain rfl:=Option.some.inj (hy.symm.trans hty);obtain⟨xs,m,rfl,hx,hl,hxl,hall⟩:=DataW.trod_struct ht hd;have h0:=hall 0 f hf;have e0:xs.map (·.1)=.lit (.int k z)::ds:=by have:=congrArg Prod.fst hx;simpa using this.symm
 cases xs with
 |nil=>cases e0
 |cons x xs =>
   simp only[List.map_cons,List.cons.injEq] at e0;obtain⟨z',hz,hz2,_⟩:=DataW.trod_int hft (h0.trans (by rfl));rw[It hn hvar]
   have hzz:z'=z:=by
     have:=hz2▸e0.1;simpa using this
   subst hzz;rw[hfo,hfc,List.drop_zero] at hz
   cases hcs:cs.toList with
   |nil=>rw[hcs] at hz;cases hz
   |cons c r=>rw[hcs] at hz;simp at hz;simp[hz]
theorem Sf{n:String}{g:Nat}{l:List (DataW Unit)}{c:Nat}{m:Int}(hn:P.globalNamed n=some g)(hy:(P.globals[g]?).map (·.type)=some t)(ht:P.underlying t=some (.array 256 e))(he:P.underlying e=some (.int .u8))(hc1:P.cellsOf e=1)
   (h:VarReads P w n (.agg l)) (hc:c<256) (hl:l[c]?=some (.lit (.int .u8 m))):w.cell? ⟨g,c,none⟩=some (.int .u8 m):=by
 obtain⟨g',t',cs,fuel,p,hg,hty,hvar,hd⟩:=h;obtain rfl:=Option.some.inj (hn.symm.trans hg);obtain rfl:=Option.some.inj (hy.symm.trans hty);obtain⟨xs,k,rfl,hx,hcl,hxl,hall⟩:=DataW.trod_array ht hd;have e0:xs.map (·.1)=l:=by have:=congrArg Prod.fst hx;simpa using this.symm
 have h1:=hall c hc;rw[hc1,Nat.mul_one] at h1;have hxc:xs[c]?=some (xs[c]'oM):=List.getElem?_eq_getElem oM;rw[hxc] at h1;obtain⟨z,hz,hz2,_⟩:=DataW.trod_int he h1;have e1:l[c]?=some ((xs[c]'oM).1):=by rw[← e0,List.getElem?_map,hxc];rfl
 rw[e1,hz2] at hl;have hzm:z=m:=by simpa using hl
 subst hzm;rw[It hn hvar];have h2:((cs.toList.drop c).take 1)[0]?=some (.int .u8 z):=by rw[hz];rfl
 rw[List.getElem?_take] at h2;simpa using h2
theorem PL{n:String}{g:Nat}{k:FloatKind}{l:List Nat}(hn:P.globalNamed n=some g)(hy:(P.globals[g]?).map (·.type)=some t)(ht:P.underlying t=some (.slice e))(he:P.underlying e=some (.float k))(hc:P.cellsOf e=1)
   (hl:0<l.length) (h:VarReads P w n (.slice (l.map λx=>.lit (.float k x)) [])):∃b off len cap,w.cell? ⟨g,0,none⟩=some (.slice (some ⟨b,off,none⟩) len cap)∧l.length≤len∧∀(j v:Nat),l[j]?=some v→w.cell? ⟨b,off+j,none⟩=some (.float k v):=by
 obtain⟨g',t',cs,fuel,p,hg,hty,hvar,hd⟩:=h;obtain rfl:=Option.some.inj (hn.symm.trans hg);obtain rfl:=Option.some.inj (hy.symm.trans hty);rcases DataW.trod_slice ht hd with ⟨_,hx⟩|⟨a,len,cap,el,rs,m,rfl,hcs,hx,_,hlc,_,hel,helem,hsp,_⟩
 · cases hx
 have e0:=congrArg Prod.fst hx;simp only[DataW.slice.injEq] at e0;have hlen:len=l.length:=by have:=congrArg List.length e0.1;simp at this;omega
 have hcell:∀(j v:Nat),l[j]?=some v→w.cell? (a.add j)=some (.float k v):=by
   intro j v hv;obtain⟨hj,hjv⟩:=List.getElem?_eq_some_iff.1 hv;have h1:=helem j oM;rw[hc,Nat.mul_one] at h1;obtain⟨b,hb⟩:∃b,el[j]?=some b:=⟨el[j]'oM,List.getElem?_eq_getElem oM⟩;rw[hb] at h1;obtain⟨ce,hce,hte⟩:=Option.bind_eq_some_iff.1 h1
   have hb1:b.1=.lit (.float k v):=by
     have:=congrArg (·[j]?) e0.1;simp[hb,hv] at this;exact this.symm
   have hce2:ce=[.float k v]:=by
     cases m with
     |zero=>simp[DataW.trod] at hte
     |succ m =>
       unfold DataW.trod at hte;rw[he] at hte
       split at hte <;> simp_all
       obtain⟨⟨rfl,_⟩,rfl⟩:=hte;simpa using hb1
   obtain⟨_,_,hcc⟩:=World.cells?_some hce;have h0:=hcc 0 oM;rw[hce2] at h0;have e1:(a.add j).add 0=a.add j:=by simp[Addr.add]
   rw[e1] at h0;exact h0
 obtain⟨R,o,sR⟩:=a
 obtain rfl:sR=none:=by
   obtain⟨v0,hv0⟩:∃v,l[0]?=some v:=⟨l[0],List.getElem?_eq_getElem hl⟩;have h00:=hcell 0 v0 hv0;have:(Addr.add ⟨R,o,sR⟩ 0)=⟨R,o,sR⟩:=by simp[Addr.add]
   rw[this] at h00;exact Go.Proofs.cell_spot h00
 refine⟨R,o,len,cap,?_,oM,λj v hv=>?_⟩
 · rw[It hn hvar,hcs];rfl
 · have:=hcell j v hv
   rwa[DM] at this
end
end Go.Proofs.YtelmolopaolbcaaGreatDoor
namespace Go.SW
open Go.RowKit
def WL(w:World):Fq:=λb=>match w.heap[b]? with
 |some (.cells cs _ _)=>cs.size
 |_=>0
theorem Tq(w:World):Vl w (WL w):=λb h=>by
 unfold WL;rw[Array.getElem?_eq_none h]
variable {b o:Nat}{w:World}
theorem IA{v:Value}(h:w.cell? ⟨b,o,none⟩=some v):o<WL w b:=by
 unfold WL;unfold World.cell? at h
 cases hb:w.heap[b]? with
 |none=>rw[hb] at h;cases h
 |some x =>
   rw[hb] at h
   cases x with
   |cells c e fr=>simpa using (Array.getElem?_eq_some_iff.1 h).1
   |_=>cases h
end Go.SW
namespace Go.Proofs.YtelmolopaolbcaaGreatDoor
open Go.SW Go.SP Go.RowKit Go.Lib Go.ChangeShapes Go.WideShapes Go.ChangeAt
theorem own:ownKnob Tryz.prog.godebug=none:=kR
def Tk:List Nat:=[4607182418800017408,4621819117588971520,4636737291354636288,4652007308841189376,4666723172467343360,4681608360884174848,4696837146684686336,4711630319722168320,4726483295884279808,4741671816366391296,4756540486875873280,4771362005757984768,4786511204640096256,4801453603149578240,4816244402031689728,4831355200913801216,4846369599423283200,4861130398305394688,4876203697187506176,4891288408196988160,4906019910204099648,4921056587992461136,4936209963552724370]
variable {args:Array Value}{fid:FuncId}{j:Nat}{W:World}
theorem W6{v:Nat}(h:FO[j]?=some v):Tk[j]?=some v:=by
 have e:FO=Tk.take 15:=rfl;rw[e,List.getElem?_take] at h
 split at h
 · exact h
 · cases h
abbrev UP:List (String×DataW Unit):=Rows.schemaDeepRow.laid
theorem Kj(k:Nat){n:String}{d:DataW Unit}(h:laidMet Tryz.prog UP W)(hk:UP[k]?=some (n,d):=by rfl):VarReads Tryz.prog W n d:=laidMet.reads h (List.mem_of_getElem? hk)
theorem mG:(Rows.laid_strings_asciiSpace:DataW Unit)=.agg ((List.range 256).map λc=>.lit (.int .u8 (if Lib.isSp (UInt8.ofNat c) then 1 else 0))):=kR
theorem tH(h:laidMetH Tryz.prog UP W)(hS:W.ShapedOpen Tryz.prog):Gl W∧∀c:Nat,c<256→W.cell? ⟨0,c,none⟩=some (.int .u8 (if Lib.isSp (UInt8.ofNat c) then 1 else 0)):=by
 rw[MakeChecks.laidMetH_plain _ _ _ (by kernel_rfl)] at h;refine⟨⟨?_,?_,?_,?_,?_⟩,?_⟩
 · exact Pw (t:=3) (zero:=#[.int .i64 0]) hS (of_decide_eq_true kR) kR kR kR kR Tryz.underlying3
 · obtain⟨ms,hm⟩:=HA (show Yv Tryz.prog 184=true by kernel_rfl)
   exact Rg (t:=184) kR kR hm (Kj 10 h)
 · exact TC (t:=4) kR kR Tryz.underlying4 (Kj 4 h)
 · exact S2 (t:=298) kR kR (fs:=Tryz.prog.fieldsOf 298) kR (f:=(Tryz.prog.fieldsOf 298)[0]!) kR kR kR kR
     (Kj 3 h)
 · obtain⟨b,off,n,c,h1,h2,h3⟩:=PL (l:=Tk) kR kR (t:=333) (e:=213) kR kR kR dC (Kj 6 h)
   exact⟨b,off,n,c,h1,Nat.le_trans dC h2,λj v hv=>h3 j v (W6 hv)⟩
 · intro c hc
   have hr:=Kj 13 h;rw[mG] at hr;exact Sf (t:=196) (e:=5) kR kR kR kR kR hr hc (by rw[List.getElem?_map,List.getElem?_range hc];rfl)
theorem fW(h:laidMetH Tryz.prog UP W)(hS:W.ShapedOpen Tryz.prog):CX W (WL W)∧EE W (WL W):=by
 obtain⟨⟨⟨m,hm⟩,⟨v,h1,h2⟩,h3,h4,⟨b,off,n,c,h5,h6,h7⟩⟩,h8⟩:=tH h hS;refine⟨λw' f' hF=>?_,⟨m,λj v hj=>?_⟩,λc hc=>⟨IA (h8 c hc),h8 c hc⟩⟩
 · have k:∀{b o:Nat}{v:Value},W.cell? ⟨b,o,none⟩=some v→w'.cell? ⟨b,o,none⟩=some v:=λ{b o v} h=>((hF b).2 o (IA h)).trans h
   exact⟨⟨m,k hm⟩,⟨v,k h1,h2⟩,k h3,k h4,⟨b,off,n,c,k h5,h6,λj v hv=>k (h7 j v hv)⟩⟩
 · cases j with
   |zero=>cases hj;exact⟨IA hm,hm⟩
   |succ j=>cases hj
theorem YV(h:Bo Tryz.prog fid args W (Bx (α:=Unit) (λ_=>.bool true) (λ_=>True) (λ_=>[]) W (WL W))):Bo Tryz.prog fid args W λv w'=>v=.bool true∧AR W w' :=
 h.mono λ_ _ ⟨_,_,h1,_,h2,_⟩=>⟨h1,h2.stp.ext⟩
variable {ps:List MemPlace}{k n:Nat}{P:Program}{e t:TypeId}
theorem dI{H:Type}{enc:TypeId×Value→H}{r:Reach}{b0:Nat}{v:Value}{d:DataW H}(ht:P.underlying t=some (.slice e))(hc:P.cellsOf e=k)
   (hval:Value.okWide P W r b0 t v) (hd:DataW.Trod enc P W 0 (λ_=>true) true t v d ps) :
   v=.slice none 0 0∨∃(a:Addr)(len cap n:Nat),v=.slice (some a) len cap∧len≤cap∧cap≤maxLen∧∀i,i<len→∃cs x,cs.length=k∧(∀j,j<k→W.cell? (a.add (i*k+j))=cs[j]?)∧DataW.trod enc P W 0 (λ_=>true) true n e cs=some x:=by
 obtain⟨a,len,cap,rfl⟩:=okWide_slice ht hval;obtain⟨fuel,hf⟩:=hd;rcases DataW.trod_slice ht hf with ⟨h1,h2⟩|⟨a',len',cap',elems,rest,n,_,h1,_,_,hl,hm,hlen,hel,_,_⟩
 · left
   have h1:[Value.slice a len cap]=[.slice none 0 0]:=h1
   cases h1;rfl
 · right
   have h1:[Value.slice a len cap]=[.slice (some a') len' cap']:=h1
   cases h1
   refine⟨a',len,cap,n,rfl,hl,hm,λi hi=>?_⟩;have h:=hel i hi;rw[List.getElem?_eq_getElem (by omega),hc,Option.bind_eq_some_iff] at h;obtain⟨cs,h3,h4⟩:=h;obtain⟨_,h5,h6⟩:=World.cells?_some h3;refine⟨cs,_,h5,λj hj=>?_,h4⟩;have:=h6 j hj;rw[Go.Deep.add_add] at this;exact this
def tT(P:Program)(t:TypeId):Bool:=match P.underlying t with
 |some (.struct fs)=>(match fs.toList with
   | [f,g]=>(f.offset==0&&g.offset==1)&&(P.cellsOf f.type==1&&P.cellsOf g.type==1)&&(match P.underlying f.type,P.underlying g.type with|some .string,some .string=>true|_,_=>false)
   |_=>false)
 |_=>false
theorem Zj{H:Type}{enc:TypeId×Value→H}{cs:List Value}{x:DataW H×List MemPlace}(hr:tT P e=true)(hl:cs.length=2)(h:DataW.trod enc P W 0 (λ_=>true) true n e cs=some x):∃p:lU×lU,cs=[S p.1,S p.2]∧p.1.length≤maxLen∧p.2.length≤maxLen:=by
 unfold tT at hr
 split at hr
 · rename_i fs hu
   split at hr
   · rename_i f g hfs
     obtain⟨fl⟩:=fs;simp only at hfs;subst hfs;simp only[Bool.and_eq_true,beq_iff_eq] at hr;obtain⟨⟨⟨o1,o2⟩,c1,c2⟩,h3⟩:=hr
     split at h3
     · rename_i hf hg
       obtain⟨y0,y1,m,_,_,h4,h5⟩:=trod_struct2 hu h;rw[o1,c1] at h4;rw[o2,c2] at h5;obtain⟨s1,e1,_,b1⟩:=DataW.trod_string hf h4;obtain⟨s2,e2,_,b2⟩:=DataW.trod_string hg h5
       match cs,hl with
       | [u,v],_ =>
         simp at e1 e2;subst e1 e2;obtain⟨⟨l1⟩⟩:=s1;obtain⟨⟨l2⟩⟩:=s2;exact⟨(l1,l2),rfl,b1,b2⟩
     · cases h3
   · cases hr
 · cases hr
theorem NI{H:Type}{enc:TypeId×Value→H}{r:Reach}{b0:Nat}{v:Value}{d:DataW H}(ht:P.underlying t=some (.slice e))(hr:tT P e=true)(hc:P.cellsOf e=2)
   (hval:Value.okWide P W r b0 t v) (hd:DataW.Trod enc P W 0 (λ_=>true) true t v d ps) :
   ∃(l:List (lU×lU))(a:Option Addr)(c:Nat),v=.slice a l.length c∧l.length≤maxLen∧DI W (WL W) l a c:=by
 rcases dI ht hc hval hd with rfl|⟨a,len,cap,n,rfl,hl,hm,hel⟩
 · exact⟨[],none,0,rfl,Nat.zero_le _,Nat.le_refl _,.inl rfl⟩
 · have key:∀m,m≤len→∃l:List (lU×lU),l.length=m∧∀j v,(bC l)[j]?=some v→W.cell? (a.add j)=some v:=λm=>by
     induction m with
     |zero=>exact λ_=>⟨[],rfl,λj v h=>by simp[SP.bC] at h⟩
     |succ m ih =>
       intro hm;obtain⟨l,h1,h2⟩:=ih oM;obtain⟨cs,x,h3,h4,h5⟩:=hel m oM;obtain⟨p,rfl,_,_⟩:=Zj hr h3 h5;refine⟨l++[p],by simp[h1],λj v hj=>?_⟩;rw[SP.bC_app,List.getElem?_append] at hj
       split at hj
       · exact h2 j v hj
       · rename_i hge
         rw[SP.bC_len,h1] at hj hge
         have hj2:j-m*2<2:=by
           rcases Nat.lt_or_ge (j-m*2) 2 with h|h
           · exact h
           · rw[List.getElem?_eq_none (by simpa[SP.bC] using h)] at hj;cases hj
         have:=h4 (j-m*2) hj2;rw[show m*2+(j-m*2)=j by omega] at this;exact this.trans hj
   obtain⟨l,h1,h2⟩:=key len (Nat.le_refl _);refine⟨l,some a,cap,by rw[h1],oM,oM,?_⟩
   by_cases h0:l=[]
   · exact .inl h0
   · have hp:∃v,(bC l)[0]?=some v:=by
       cases l with
       |nil=>exact absurd rfl h0
       |cons p l=>exact⟨_,rfl⟩
     obtain⟨v0,hv0⟩:=hp;have hs:=World.cell?_spot (h2 0 v0 hv0);obtain⟨b,off,s⟩:=a
     have hs:s=none:=by
       cases s with
       |none=>rfl
       |some k=>simp[Addr.add] at hs
     subst hs;refine .inr ⟨b,off,rfl,λj v hj=>?_⟩;have:=h2 j v hj;rw[WideShapes.add_plain] at this;exact⟨IA this,this⟩
end Go.Proofs.YtelmolopaolbcaaGreatDoor
namespace Go.SP
open Go.SW Go.RowKit
def vZ(w:World)(f:Fq)(l:List (List Int))(a:Option Addr):Prop:=∀(i:Nat)(x:List Int),l[i]?=some x→∃b off a' c',a=some ⟨b,off,none⟩∧Cs w f b (off+i*1) [.slice a' x.length c']∧BG w f x a' c'
variable {a:Option Addr}
theorem vZ.mono{l:List (List Int)}:EY (λw f=>vZ w f l a):=λ_ _ _ _ h hF i x hx =>
 let ⟨b,off,a',c',h1,h2,h3⟩:=h i x hx
 ⟨b,off,a',c',h1,h2.mono hF,BG.mono _ _ _ _ h3 hF⟩
end Go.SP
namespace Go.Proofs.YtelmolopaolbcaaGreatDoor
open Go.SW Go.SP Go.RowKit Go.Lib Go.ChangeShapes Go.WideShapes Go.ChangeAt
variable {ps:List MemPlace}{P:Program}{t:TypeId}{W:World}
theorem N2{H:Type}{enc:TypeId×Value→H}{v:Value}{d:DataW H}(hl:laidOutB P=true)(hr:P.readableRec t=true)(hs:decide (t<P.types.size)=true)(h:DataW.Trod enc P W 0 (λ_=>true) true t v d ps) :
   ∀W',AR W W'→DataW.Trod enc P W' 0 (λb=>decide (b<W.heap.size)) true t v d ps:=λW' hE=>by
 obtain⟨n,hn⟩:=h;have hlt:=DataW.trod_lt n _ _ _ hn;refine DataW.Trod.respare (kids_book hl hr) (λ_ _=>book_sized hr) (t:=t) ⟨of_decide_eq_true hs,book_self t⟩ ⟨n,DataW.trod_carry n _ _ _ hn λp hp=>?_⟩ λp hp=>by simpa using hlt p hp
 have hb:=hlt p hp
 cases p with
 |cell b off =>
   show W'.cell? ⟨b,off,none⟩=W.cell? ⟨b,off,none⟩;unfold World.cell?;rw[show W'.heap[(⟨b,off,none⟩:Addr).block]?=W.heap[(⟨b,off,none⟩:Addr).block]? from hE.block b hb]
 |map b=>exact hE.block b hb
end Go.Proofs.YtelmolopaolbcaaGreatDoor
namespace Go.SP
structure H4 where
 met:List lU
 keeps:Bool
def J5:List lU→lU→Int
 | [],_ => -1
 |k::l,n=>if k==n then 0 else (let j:=J5 l n;if j<0 then j else j+1)
def dN(vars:List lU)(tx:lU):lU:=39::(Utf8.encode (97+J5 vars tx)).data.toList
def Cl(dn:lU→Bool)(tx:lU)(s:H4):H4 :=
 ⟨if dn tx&&!s.met.contains tx then s.met++[tx] else s.met,s.keeps&&!(tx==Ei)&&!(tx==I6)⟩
def allS(dn:lU→Bool)(vars:List lU):Nd→H4→lU×H4
 |.nil,s=>([],s)
 |.cons op _ _ tx _ k r,s =>
   let a:=if op==31 then (dN vars tx,s)
     else if k.len=0 then (tx,Cl dn tx s)
     else ([40]++tx++(allS dn vars k (Cl dn tx s)).1++[41],(allS dn vars k (Cl dn tx s)).2)
   let b:=allS dn vars r a.2
   (32::(a.1++b.1),b.2)
def Da(dn:lU→Bool)(vars:List lU)(op:Int)(tx:lU)(k:Nd)(s:H4):lU×H4 :=
 if op==31 then (dN vars tx,s)
 else if k.len=0 then (tx,Cl dn tx s)
 else ([40]++tx++(allS dn vars k (Cl dn tx s)).1++[41],(allS dn vars k (Cl dn tx s)).2)
def C5:Nd→List lU×Nd×Nd
 |.nil=>([],.nil,.nil)
 |.cons op ln co tx nm k r=>if op==31 then (tx::(C5 r).1,.cons op ln co tx nm k (C5 r).2.1,(C5 r).2.2) else ([],.nil,.cons op ln co tx nm k r)
def FF(dn:lU→Bool)(vars:List lU):Nd→H4→List lU×H4
 |.nil,s=>([],s)
 |.cons _ _ _ tx _ k r,s=>((tx++(allS dn vars k s).1)::(FF dn vars r (allS dn vars k s).2).1,(FF dn vars r (allS dn vars k s).2).2)
def Ga:List lU→lU
 | []=>[]
 | [a]=>a
 |a::b::l=>a++44::Ga (b::l)
def Gb(dn:lU→Bool)(tx:lU)(k:Nd)(s:H4):lU×H4 :=
 let v:=C5 k
 let c:=FF dn v.1 v.2.2 s
 ([124]++tx++(allS dn v.1 v.2.1 c.2).1++[61]++Ga c.1,(allS dn v.1 v.2.1 c.2).2)
def Cw:Nd→List (lU×Nd)
 |.nil=>[]
 |.cons op _ _ tx _ k r=>if op==41 then Cw r++[(tx,k)] else Cw r
def Bg(ds:List (lU×Nd))(tx:lU):Bool:=(AS ds tx).isSome
def KC(ds:List (lU×Nd)):Nat→Nat→lU→H4→lU×H4
 |0,_,t,s=>(t,s)
 |n+1,i,t,s=>match s.met[i]? with
   |none=>(t,s)
   |some d=>KC ds n (i+1) (t++(Gb (Bg ds) d ((AS ds d).getD .nil) s).1) (Gb (Bg ds) d ((AS ds d).getD .nil) s).2
def M8(ds:List (lU×Nd))(op:Int)(tx:lU)(k:Nd):lU×H4 :=
 KC ds (ds.length+1) 0 (Da (Bg ds) [] op tx k ⟨[],true⟩).1 (Da (Bg ds) [] op tx k ⟨[],true⟩).2
def Qw(ds:List (lU×Nd)):Nd→List (lU×lU)→Except Er (List (lU×lU))
 |.nil,out=>.ok out
 |.cons op ln co tx _ k r,out=>if op==43 then (if (out.length:Int)==100 then .error (ln,co,4) else match k with
     |.nil=>Qw ds r out
     |.cons o l c x _ k1 _=>let w:=M8 ds o x k1
       if !w.2.keeps then .error (l,c,17) else if w.1.length>1000 then .error (l,c,4) else Qw ds r (out++[(tx,w.1)]))
   else Qw ds r out
def aR(nds:Nd):Except Er (List (lU×lU)):=Qw (Cw nds) nds []
end Go.SP
namespace Go.Proofs.YtelmolopaolbcaaGreatDoor
open Go.SW Go.SP Go.RowKit
def HL(src:lU):Option RB:=match NH src with
 |.error _=>none
 |.ok _=>some (aR (Db src).1)
def wP(o:Option RB)(x:Option Addr×Nat):Value:=match o with
 |none=>.tuple #[.slice none 0 0,.agg #[.int .i64 0,.int .i64 0],.int .i64 0,.bool false]
 |some r=>.tuple #[.slice x.1 (oW r).length x.2,.agg #[.int .i64 (cK r).1,.int .i64 (cK r).2.1],.int .i64 (cK r).2.2,.bool true]
def wZ:Option RB→List (lU×lU)
 |none=>[]
 |some r=>oW r
def xC(o:Option RB)(w:World)(f:Fq):Value→World→Prop:=Bx (α:=Option Addr×Nat) (wP o) (λ_=>True) (λx=>[λw f=>DI w f (wZ o) x.1 x.2]) w f
def XN:lU:=[40,100,97,116,97,32,108,105,115,116,32,40,39,120,41,32,40,78,105,108,41,32,40,67,111,110,115,32,39,120,32,40,108,105,115,116,32,39,120,41,41,41,32,40,114,111,111,116,32,114,32,40,108,105,115,116,32,105,110,116,41,32,78,105,108,41]
def X4:lU:=[40,114,111,111,116,32,114,32,40,45,62,32,105,110,116,32,105,110,116,41,32,110,101,103,41]
def nX:List (lU×lU):=[([114],[40,108,105,115,116,32,105,110,116,41,124,108,105,115,116,32,39,97,61,78,105,108,44,67,111,110,115,32,39,97,32,40,108,105,115,116,32,39,97,41])]
set_option maxRecDepth 100000 in
theorem iC:HL XN=some (.ok nX):=kR
set_option maxRecDepth 100000 in
theorem jD:HL X4=some (.error (1,9,17)):=kR
end Go.Proofs.YtelmolopaolbcaaGreatDoor
namespace Go.SP
open Go.SW Go.RowKit
def fH(w:World)(l:List lU)(a:Option Addr)(c:Nat):Prop:=l.length≤c∧(l=[]∨∃b off,a=some ⟨b,off,none⟩∧∀j v,(l.map S)[j]?=some v→w.cell? ⟨b,off+j,none⟩=some v)
def Ie(w:World)(f:Fq)(l:List lU)(a:Option Addr)(c:Nat):Prop:=l.length≤c∧(l=[]∨∃b off,a=some ⟨b,off,none⟩∧Cs w f b off (l.map S))
section
variable{w:World}{f:Fq}{l:List lU}{a:Option Addr}{c:Nat}
theorem Ie.mono:EY (λw f=>Ie w f l a c):=λ_ _ _ _ h hF=>⟨h.1,h.2.imp id λ⟨b,off,h1,h2⟩=>⟨b,off,h1,h2.mono hF⟩⟩
theorem Ie.sw(h:Ie w f l a c):fH w l a c:=⟨h.1,h.2.imp id λ⟨b,off,h1,h2⟩=>⟨b,off,h1,λj v hj=>(h2 j v hj).2⟩⟩
theorem fH.fz(h:fH w l a c):Ie w (WL w) l a c:=⟨h.1,h.2.imp id λ⟨b,off,h1,h2⟩=>⟨b,off,h1,λj v hj=>⟨IA (h2 j v hj),h2 j v hj⟩⟩⟩
theorem Ie.get(h:Ie w f l a c){i:Nat}{x:lU}(hx:l[i]?=some x):∃b off,a=some ⟨b,off,none⟩∧Cs w f b (off+i*1) [S x]:=by
 rcases h.2 with h|⟨b,off,h1,h2⟩
 · subst h;cases hx
 · refine⟨b,off,h1,λj v hj=>?_⟩
   cases j with
   |zero =>
     cases hj
     have:=h2 i (S x) (by rw[List.getElem?_map,hx];rfl);rw[Nat.mul_one,Nat.add_zero];exact this
   |succ j=>cases hj
theorem fH.row{e:TypeId}(h:BQ w e 1 a c l.length (l.map S)):fH w l a c:=by
 rcases h.2 with ⟨_,_,hz⟩|⟨b,q,ha,hb,hmc,_,hq,ht⟩
 · exact⟨oM,.inl (by cases l with|nil=>rfl|cons _ _=>simp at hz)⟩
 · refine⟨hmc,.inr ⟨b,0,ha,λj v hj=>?_⟩⟩
   rw[Nat.zero_add,hb.cell];have hj2:=hj;rw[← ht,List.getElem?_take] at hj2
   split at hj2
   · exact hj2
   · cases hj2
end
theorem XF{X:Cx}{w:World}{f:Fq}{H:List HB}{R:List RB}{B:List FB}{Fs:List (World→Fq→Prop)}{T:TypeId}{a:Option Addr}{c:Nat}{l:List lU}(hM:AO X w f H (⟨T,1,a,c,l.length,l.map S⟩::R) B Fs):∃f',AO X w f' H R B Fs∧Ie w f' l a c:=by
 have hr:=hM.row _ (.head _);rcases hr.2 with ⟨_,_,hz⟩|⟨b,q,ha,hb,hmc,_,hq,ht⟩
 · simp only at hz
   exact⟨f,hM.less (List.Sublist.refl _) (List.sublist_cons_self _ _) (λ_ h=>h) (λ_ h=>h),oM,.inl (by cases l with|nil=>rfl|cons _ _=>simp at hz)⟩
 · simp only at ha
   subst ha;obtain⟨f',hM'⟩:=hM.done (i:=0) rfl rfl;refine⟨f',hM'.less (List.Sublist.refl _) (List.Sublist.refl _) (λ_ h=>.tail _ h) (λ_ h=>h),hmc,.inr ⟨b,0,rfl,hM'.fro _ (.head _)⟩⟩
def FJ(w:World)(f:Fq):List (lU×Nd)→List (lU×Value)→Prop
 | [],es=>es=[]
 |(k,x)::l,es=>∃op ln co nm a c es',es=(k,.agg (Kd op ln co k nm a x.len c).toArray)::es'∧AD w f x a c∧FJ w f l es'
theorem FJ.mono{w w':World}{f f':Fq}(hF:Hm w f w' f'):∀(l:List (lU×Nd))(es:List (lU×Value)),FJ w f l es→FJ w' f' l es
 | [],_,h=>h
 |(_,_)::l,_,⟨op,ln,co,nm,a,c,es',h1,h2,h3⟩=>⟨op,ln,co,nm,a,c,es',h1,AD.mono _ _ _ _ h2 hF,FJ.mono hF l es' h3⟩
theorem FJ.look{w:World}{f:Fq}{n:lU}:∀{l:List (lU×Nd)}{es:List (lU×Value)},FJ w f l es→(AS l n=none→Em es n=none)∧∀x,AS l n=some x→∃op ln co nm a c,Em es n=some (.agg (Kd op ln co n nm a x.len c).toArray)∧AD w f x a c
 | [],es,h=>by
   have h:es=[]:=h;subst h;exact⟨λ_=>rfl,λt h=>by cases h⟩
 |(k,x)::l,es,⟨op,ln,co,nm,a,c,es',h1,h2,h3⟩=>by
   subst h1;have ih:=FJ.look (n:=n) h3;simp only[AS,Em]
   by_cases hk:k=n
   · subst hk
     refine⟨λh=>by simp at h,λt' h=>?_⟩;simp at h;subst h;exact⟨op,ln,co,nm,a,c,by simp,h2⟩
   · have e1:(k==n)=false:=by simpa using hk
     have e2:(n==k)=false:=by simpa using λe:n=k=>hk e.symm
     rw[e1,e2];simpa using ih
def Fm(wb mb:Nat)(a:Option Addr)(b:Nat):Prop:=b=wb∨b=mb∨rb a=some b
structure Gt(T e:TypeId)(wb mb:Nat)(ds:List (lU×Nd))(sl kp:Value)(a:Option Addr)(c:Nat)(l:List lU)(w:World)(f:Fq):Prop where
 blk:AI w wb [.map (some mb),sl,kp] T
 map:∃es,BF BN w mb es∧FJ w f ds es∧Ir es
 row:BQ w e 1 a c l.length (l.map S)
 ne:wb≠mb∧rb a≠some wb∧rb a≠some mb
section
variable{T e:TypeId}{wb mb:Nat}{ds:List (lU×Nd)}{sl sl' kp kp':Value}{a a':Option Addr}{c c':Nat}{l:List lU}{w w':World}{f f':Fq}{x:lU}
theorem Gt.stab:EU (Fm wb mb a) (Gt T e wb mb ds sl kp a c l):=λ_ _ _ _ h hF hb =>
 ⟨(hb wb (.inl rfl)).trans h.blk,let ⟨es,h1,h2,h3⟩:=h.map;⟨es,h1.heap (hb mb (.inr (.inl rfl))),FJ.mono hF _ _ h2,h3⟩,⟨h.row.1,h.row.2.imp id λ⟨b,q,h1,h2,h3⟩=>⟨b,q,h1,(hb b (.inr (.inr (by rw[h1];rfl)))).trans h2,h3⟩⟩,h.ne⟩
variable {b:Nat}
theorem Gt.lt(h:Gt T e wb mb ds sl kp a c l w f)(hb:Fm wb mb a b):b<w.heap.size:=by
 rcases hb with rfl|rfl|hb
 · exact h.blk.lt
 · obtain⟨_,h1,_⟩:=h.map;exact h1.lt
 · exact h.row.lt hb
theorem Gt.app(h:Gt T e wb mb ds sl kp a c l w f)(hF:Hm w f w' f')(hr:BQ w' e 1 a' c' (l.length+1) (l.map S++[S x]))(hG:En a w a' w'):Gt T e wb mb ds sl kp a' c' (l++[x]) w' f' where
 blk:=h.blk.grow hG (λe=>h.ne.2.1 e.symm)
 map:=let ⟨es,h1,h2,h3⟩:=h.map;⟨es,h1.heap (hG.block mb h1.lt (λe=>h.ne.2.2 e.symm)),FJ.mono hF _ _ h2,h3⟩
 row:=by simpa using hr
 ne:=⟨h.ne.1,λe=>hG.own.elim (λo=>h.ne.2.1 (o.symm.trans e)) (λo=>absurd h.blk.lt (by rw[← Option.some.inj (o.symm.trans e)];exact Nat.lt_irrefl _)),λe=>hG.own.elim (λo=>h.ne.2.2 (o.symm.trans e)) (λo=>absurd (h.lt (.inr (.inl rfl))) (by rw[← Option.some.inj (o.symm.trans e)];exact Nat.lt_irrefl _))⟩
theorem Gt.store(h:Gt T e wb mb ds sl kp a c l w f)(hF:Hm w f w' f')(hC:FX wb w w')(hb:AI w' wb [.map (some mb),sl',kp'] T):Gt T e wb mb ds sl' kp' a c l w' f' where
 blk:=hb
 map:=let ⟨es,h1,h2,h3⟩:=h.map;⟨es,h1.heap (hC.block mb (λe=>h.ne.1 e.symm)),FJ.mono hF _ _ h2,h3⟩
 row:=BQ.chgB h.row hC h.ne.2.1
 ne:=h.ne
end
variable {b:Nat}
theorem Fm.or{wb mb:Nat}{a a':Option Addr}(h:Fm wb mb a' b):Fm wb mb a b∨rb a'=some b:=h.elim (λh=>.inl (.inl h)) λh=>h.elim (λh=>.inl (.inr (.inl h))) .inr
abbrev LI(T e:TypeId)(wb mb:Nat)(ds:List (lU×Nd))(s:H4)(a:Option Addr)(c:Nat):World→Fq→Prop:=Gt T e wb mb ds (.slice a s.met.length c) (.bool s.keeps) a c s.met
def Nd.cap:Nd→Nat
 |.nil=>0
 |.cons _ _ _ tx _ k r=>tx.length+8+k.cap+r.cap
theorem Nd.cap_le:∀k:Nd,k.txb→k.cap≤100008*k.size
 |.nil,_=>Nat.zero_le _
 |.cons _ _ _ tx _ k r,h=>by
   have h1:=Nd.cap_le k h.2.1;have h2:=Nd.cap_le r h.2.2;have h3:=h.1;simp only[Nd.cap,Nd.size];omega
end Go.SP
namespace Go.SW
open Go.RowKit Go.SP
section
variable{P:Program}{n:Nat}{Q:AT}{ds:List Deferred}{X:Cx}{R:List RB}{B:List FB}{Fs:List (World→Fq→Prop)}{fs:List Fr}{σ:Ba}{H:List HB}{k:Kc}{na:Option Addr}{i c:Nat}
theorem wK{l:List lU}{v:lU}(j:Nat)(hj:nth Fs j=some (λw f=>Ie w f l na c))(hx:l[i]?=some v)
   (h:∀x:Nat×Nat,na=some ⟨x.1,x.2,none⟩→A3 P n Q ds X R (⟨x.1,x.2+i*1,[S v]⟩::B) Fs k fs σ H):A3 P n Q ds X R B Fs k fs σ H :=
 Kb (α:=Nat×Nat) (λx=>na=some ⟨x.1,x.2,none⟩) (λ_=>[_]) (λ_=>[]) (λ_ _ hM=>let ⟨b,off,h1,h2⟩:=Ie.get (hM.fn hj) hx;⟨(b,off),h1,oE h2,nE⟩) (λ_=>Aw.mem tQ) h
end
end Go.SW
namespace Go.SP
open Go.SW Go.RowKit
theorem Pv{x:lU}:∀{l:List lU}{i:Nat},(l.take i).contains x=false→l[i]?=some x→J5 l x=i
 |a::l,0,_,h=>by
   simp only[List.getElem?_cons_zero,Option.some.injEq] at h;subst h;unfold J5;rw[if_pos (by simp)];rfl
 |a::l,i+1,hn,h=>by
   rw[List.take_succ_cons,List.contains_cons,Bool.or_eq_false_iff] at hn;have ih:=Pv hn.2 (by simpa using h);unfold J5;rw[if_neg (by intro e;have:=beq_iff_eq.1 e;subst this;simp at hn),ih];simp only;rw[if_neg (by omega)];omega
theorem NF{x:lU}:∀{l:List lU},l.contains x=false→J5 l x = -1
 | [],_=>rfl
 |a::l,h=>by
   rw[List.contains_cons,Bool.or_eq_false_iff] at h;unfold J5;rw[if_neg (by intro e;have:=beq_iff_eq.1 e;subst this;simp at h),NF h.2];rfl
theorem QH(l:List lU)(x:lU) : -1≤J5 l x∧J5 l x<l.length∧(decide (0≤J5 l x)=l.contains x):=by
 cases hc:l.contains x with
 |false=>rw[NF hc];exact⟨Int.le_refl _,oM,rfl⟩
 |true =>
   have h1:∃i,l[i]?=some x∧(l.take i).contains x=false:=by
     induction l with
     |nil=>cases hc
     |cons a l ih =>
       by_cases e:x=a
       · exact⟨0,by rw[e];rfl,rfl⟩
       · rw[List.contains_cons,show (x==a)=false by simpa using e,Bool.false_or] at hc
         obtain⟨i,h1,h2⟩:=ih hc;exact⟨i+1,by simpa using h1,by rw[List.take_succ_cons,List.contains_cons,show (x==a)=false by simpa using e,h2];rfl⟩
   obtain⟨i,h1,h2⟩:=h1;rw[Pv h2 h1];have:=(List.getElem?_eq_some_iff.1 h1).1;exact⟨oM,oM,by simp⟩
theorem UT(n:Int):(Utf8.encode n).data.toList.length≤4:=by
 unfold Utf8.encode;generalize (if Utf8.valid n=true then n.toNat else Utf8.runeError)=c
 by_cases h1:c<0x80
 · simp[h1]
 · by_cases h2:c<0x800
   · simp[h1,h2]
   · by_cases h3:c<0x10000
     · simp[h1,h2,h3]
     · simp[h1,h2,h3]
theorem Ry(vs:List lU)(x:lU):(dN vs x).length≤5:=by
 unfold dN;have:=UT (97+J5 vs x);simp only[List.length_cons];omega
theorem En.fle{a a':Option Addr}{w w':World}{f:Fq}(hG:En a w a' w')(hv:Vl w f)(h0:∀b,rb a=some b→f b=0):Hm w f w' f:=λb=>⟨Nat.le_refl _,λo ho=>by
 have hb:b<w.heap.size:=by
   rcases Nat.lt_or_ge b w.heap.size with h|h
   · exact h
   · have:=hv b h;omega
 exact De (hG.block b hb (λe=>by rw[h0 b e.symm] at ho;omega)) o⟩
variable {b:Nat}
theorem KB{w w':World}{f:Fq}(hC:FX b w w')(h0:f b=0):Hm w f w' f:=λk=>⟨Nat.le_refl _,λo ho=>De (hC.block k (λe=>by rw[e,h0] at ho;omega)) o⟩
theorem N8(dn:lU→Bool)(tx:lU)(s:H4):(Cl dn tx s).met.length≤s.met.length+1:=by
 unfold Cl;simp only
 split <;> simp
theorem DZ(dn:lU→Bool)(vs:List lU):∀(k:Nd)(s:H4),(allS dn vs k s).1.length≤k.cap∧(allS dn vs k s).2.met.length≤s.met.length+k.size
 |.nil,s=>⟨Nat.le_refl _,Nat.le_refl _⟩
 |.cons op ln co tx nm k r,s=>by
   have hv:=Ry vs tx;have hm:=N8 dn tx s;have hk:=DZ dn vs k (Cl dn tx s);unfold allS;simp only
   split
   · have hr:=DZ dn vs r s
     simp only[List.length_cons,List.length_append,Nd.cap,Nd.size] at hr ⊢;omega
   · split
     · have hr:=DZ dn vs r (Cl dn tx s)
       simp only[List.length_cons,List.length_append,Nd.cap,Nd.size] at hr ⊢;omega
     · have hr:=DZ dn vs r (allS dn vs k (Cl dn tx s)).2
       simp only[List.length_cons,List.length_append,List.length_nil,Nd.cap,Nd.size] at hr ⊢;omega
theorem OH(dn:lU→Bool)(vs:List lU)(op ln co nm:Int)(tx:lU)(k r:Nd)(s:H4):allS dn vs (.cons op ln co tx nm k r) s=(32::((Da dn vs op tx k s).1++(allS dn vs r (Da dn vs op tx k s).2).1),(allS dn vs r (Da dn vs op tx k s).2).2):=by
 unfold Da
 conv=>lhs;unfold allS
end Go.SP
namespace Go.SP
open Go.SW Go.RowKit
theorem dW{n:Int}(h : -2147483648≤n∧n<2147483648):IntKind.i32.wrap n=n:=by
 unfold IntKind.wrap;simp[IntKind.bits,IntKind.signed];omega
theorem iK(n:Int):Utf8.encode n=⟨(Utf8.encode n).data.toList.toArray⟩:=by simp
def U9(P:Program)(fid:FuncId)(T e:TypeId)(m:Nat):Prop:=∀(w:World)(f:Fq)(_:Vl w f)(wb mb:Nat)(ds:List (lU×Nd))(s:H4)(oa:Option Addr)(oc:Nat),LI T e wb mb ds s oa oc w f→(∀b,Fm wb mb oa b→f b=0)→∀(op ln co nm:Int)(tx:lU)(k:Nd)(na:Option Addr)(nc:Nat)(vs:List lU)(va:Option Addr)(vc:Nat),
 k.size<m→k.size≤200000→tx.length≤100000→k.txb→s.met.length+k.size+1≤1000000→vs.length≤1000000→AD w f k na nc→Ie w f vs va vc →
 Bo P fid #[.pointer (some ⟨wb,0,none⟩),.agg #[.int .i64 op,.int .i64 ln,.int .i64 co,S tx,.int .i64 nm,.slice na k.len nc],.slice va vs.length vc] w (JV (α:=Option Addr×Nat) (λ_=>S (Da (Bg ds) vs op tx k s).1) (λ_=>True) (Fm wb mb oa) (λx=>Fm wb mb x.1) (λx=>LI T e wb mb ds (Da (Bg ds) vs op tx k s).2 x.1 x.2) (λ_=>[]) w f)
def rD(P:Program)(fid:FuncId)(T e:TypeId)(m:Nat):Prop:=∀(w:World)(f:Fq)(_:Vl w f)(wb mb:Nat)(ds:List (lU×Nd))(s:H4)(oa:Option Addr)(oc:Nat),LI T e wb mb ds s oa oc w f→(∀b,Fm wb mb oa b→f b=0)→∀(k:Nd)(na:Option Addr)(nc:Nat)(vs:List lU)(va:Option Addr)(vc:Nat),
 k.size≤m→k.size≤200000→k.txb→s.met.length+k.size≤1000000→vs.length≤1000000→AD w f k na nc→Ie w f vs va vc →
 Bo P fid #[.pointer (some ⟨wb,0,none⟩),.slice na k.len nc,.slice va vs.length vc] w (JV (α:=Option Addr×Nat) (λ_=>S (allS (Bg ds) vs k s).1) (λ_=>True) (Fm wb mb oa) (λx=>Fm wb mb x.1) (λx=>LI T e wb mb ds (allS (Bg ds) vs k s).2 x.1 x.2) (λ_=>[]) w f)
end Go.SP
namespace Go.SP
theorem O0(dn:lU→Bool)(vs:List lU)(op:Int)(tx:lU)(k:Nd)(s:H4):(Da dn vs op tx k s).1.length≤tx.length+7+k.cap∧(Da dn vs op tx k s).2.met.length≤s.met.length+k.size+1:=by
 have hv:=Ry vs tx;have hm:=N8 dn tx s;have hk:=DZ dn vs k (Cl dn tx s);unfold Da
 split
 · simp only;omega
 · split
   · simp only;omega
   · simp only[List.length_append,List.length_cons,List.length_nil];omega
end Go.SP
namespace Go.SP
open Go.SW Go.RowKit
variable {co ln nm:Int}{m:Nat}{r:Nd}{lo:Operand}{ty:TypeId}
theorem W5{op:Int}{tx:lU}{k:Nd}(h:(op==31)=true):C5 (.cons op ln co tx nm k r)=(tx::(C5 r).1,.cons op ln co tx nm k (C5 r).2.1,(C5 r).2.2):=by
 rw[C5,if_pos h]
theorem Wu{op:Int}{tx:lU}{k:Nd}(h:(op==31)=false):C5 (.cons op ln co tx nm k r)=([],.nil,.cons op ln co tx nm k r):=by
 rw[C5,if_neg (by rw[h];decide)]
theorem K5:∀l:List lU,Ga l=Lib.join l [44]
 | []=>rfl
 | [a]=>by rw[Lib.join_cons];simp[Ga,Lib.joinTail]
 |a::b::l=>by rw[Ga,K5 (b::l),Lib.join_cons,Lib.join_cons];simp[Lib.joinTail]
theorem Su(l:List lU)(x:lU):(Ga (l++[x])).length≤(Ga l).length+1+x.length:=by
 cases l with
 |nil=>show x.length≤_;omega
 |cons a l =>
   rw[List.cons_append,K5,K5,Lib.join_cons,Lib.join_cons,MS];simp only[List.length_append,List.length_cons,List.length_nil];omega
theorem Mw(dn:lU→Bool)(vs:List lU)(op ln co nm:Int)(tx:lU)(k r:Nd)(s:H4):FF dn vs (.cons op ln co tx nm k r) s=((tx++(allS dn vs k s).1)::(FF dn vs r (allS dn vs k s).2).1,(FF dn vs r (allS dn vs k s).2).2):=rfl
theorem WY{dn:lU→Bool}{tx:lU}{k u:Nd}{s s2:H4}{vs cs:List lU}(hv:C5 k=(vs,u,r))(hc:FF dn vs r s=(cs,s2)):Gb dn tx k s=([124]++tx++(allS dn vs u s2).1++[61]++Ga cs,(allS dn vs u s2).2):=by
 unfold Gb;rw[hv];simp only;rw[hc]
theorem Pj:∀(x y:Nd),(x.app y).cap=x.cap+y.cap
 |.nil,y=>by show y.cap=0+_;omega
 |.cons _ _ _ _ _ _ r,y=>by
   have:=Pj r y;show _+_+(r.app y).cap=_+_+r.cap+y.cap;omega
theorem ZF:∀(x y:Nd),(x.app y).txb→x.txb∧y.txb
 |.nil,_,h=>⟨tQ,h⟩
 |.cons _ _ _ _ _ _ r,y,h=>⟨⟨h.1,h.2.1,(ZF r y h.2.2).1⟩,(ZF r y h.2.2).2⟩
def tS(a:Option Addr)(c i:Nat):Option Addr:=if c=i then a else a.map (·.add (i*6))
theorem NS.drop{w:World}{f:Fq}:∀(u r:Nd)(b off:Nat),NS w f (u.app r) b off→NS w f r b (off+u.len*6)
 |.nil,r,b,off,h=>by show NS w f r b (off+0*6);rw[Nat.zero_mul];exact h
 |.cons _ _ _ _ _ _ x,r,b,off,h=>by
   have:=NS.drop x r b _ h.2;rw[show off+(Nd.cons _ _ _ _ _ _ x).len*6=off+6+x.len*6 by simp only[Nd.len];omega];exact this
theorem AD.drop{w:World}{f:Fq}{u:Nd}{a:Option Addr}{c i:Nat}(h:AD w f (u.app r) a c)(hu:u.len=i):AD w f r (tS a c i) (c-i):=by
 have hl:=Nd.app_len u r;refine⟨by have:=h.1;omega,?_⟩;rcases h.2 with e|⟨b,off,h1,h2⟩
 · exact .inl (by cases u with|nil=>exact e|cons=>cases e)
 · have h3:=NS.drop u r b off h2
   unfold tS
   split
   · exact .inl (Nd.len0 (by have:=h.1;omega))
   · exact .inr ⟨b,off+i*6,by rw[h1];simp[Addr.add],hu▸h3⟩
theorem bV{P:Program}{σ:Ba}{w:World}{T e:TypeId}{x:Operand}{i:Nat}{k1:IntKind}{a fa:Option Addr}{len cap:Nat}(hfa:fa=tS a cap i)(hm:len=i+m)(hx:ev σ x=some (.slice a len cap))(hlo:ev σ lo=some (.int k1 (i:Int)))(hs:Ih P T=some (e,6)):AG P σ (.slice T x (some lo) none none) ty w (.slice fa m (cap-i)) w:=by
 subst hfa;have h:=KQ (ty:=ty) (w:=w) hx hlo hs (show i≤len by omega);rw[show len-i=m by omega] at h;exact h
abbrev DS:=List (lU×Nd)
def Gd(ds:DS)(s:H4):Prop:=s.met.Nodup∧∀x,x∈s.met→Bg ds x=true
structure Rl(ds:DS)(s t:H4):Prop where
 gd:Gd ds s→Gd ds t
 pre:s.met <+: t.met
section
variable{ds:DS}{s t u:H4}{vs:List lU}{op:Int}{tx:lU}
theorem Rl.refl:Rl ds s s:=⟨id,List.prefix_refl _⟩
theorem Rl.trans(h1:Rl ds s t)(h2:Rl ds t u):Rl ds s u:=⟨λh=>h2.gd (h1.gd h),h1.pre.trans h2.pre⟩
theorem Rl.meet:Rl ds s (Cl (Bg ds) tx s):=by
 unfold Cl
 by_cases hc:(Bg ds tx&&!s.met.contains tx)=true
 · simp only[hc,if_true]
   rw[Bool.and_eq_true,Bool.not_eq_true'] at hc;refine⟨λh=>⟨?_,?_⟩,List.prefix_append _ _⟩
   · simp only
     rw[List.nodup_append];refine⟨h.1,by simp,λa ha b hb e=>?_⟩;rw[List.mem_singleton] at hb;subst e hb;rw[List.contains_iff_mem.2 ha] at hc;exact absurd hc.2 dC
   · intro x hx
     rcases List.mem_append.1 hx with hx|hx
     · exact h.2 x hx
     · rw[List.mem_singleton.1 hx];exact hc.1
 · simp only[hc]
   exact⟨id,List.prefix_refl _⟩
theorem Rl.all:∀(k:Nd)(s:H4),Rl ds s (allS (Bg ds) vs k s).2
 |.nil,_=>.refl
 |.cons op ln co tx nm k r,s=>by
   rw[OH];refine .trans ?_ (Rl.all r _);unfold Da
   split
   · exact .refl
   · split
     · exact .meet
     · exact .trans .meet (Rl.all k _)
theorem Rl.text{k:Nd}:Rl ds s (Da (Bg ds) vs op tx k s).2:=by
 unfold Da
 split
 · exact .refl
 · split
   · exact .meet
   · exact .trans .meet (Rl.all k _)
theorem Rl.cons:∀(k:Nd)(s:H4),Rl ds s (FF (Bg ds) vs k s).2
 |.nil,_=>.refl
 |.cons _ _ _ _ _ k r,s=>.trans (Rl.all k s) (Rl.cons r _)
theorem Rl.data{k:Nd}:Rl ds s (Gb (Bg ds) tx k s).2:=.trans (Rl.cons _ _) (Rl.all _ _)
end
theorem L8:∀k:Nd,k=(C5 k).2.1.app (C5 k).2.2
 |.nil=>rfl
 |.cons op ln co tx nm k r=>by
   rw[C5]
   split
   · show _=Nd.cons op ln co tx nm k ((C5 r).2.1.app (C5 r).2.2)
     rw[← L8 r]
   · rfl
theorem Ol(dn:lU→Bool)(vs:List lU):∀(k:Nd)(s:H4),(Ga (FF dn vs k s).1).length≤k.cap
 |.nil,s=>Nat.le_refl _
 |.cons op ln co tx nm k r,s=>by
   have h1:=(DZ dn vs k s).1;have h2:=Ol dn vs r (allS dn vs k s).2;rw[Mw];show (Ga ((tx++(allS dn vs k s).1)::(FF dn vs r (allS dn vs k s).2).1)).length≤tx.length+8+k.cap+r.cap;generalize (FF dn vs r (allS dn vs k s).2).1=l at h2
   cases l with
   |nil=>simp only[Ga,List.length_append];omega
   |cons a l=>simp only[Ga,List.length_append,List.length_cons] at h2 ⊢;omega
theorem Wo(dn:lU→Bool)(tx:lU)(k:Nd)(s:H4):(Gb dn tx k s).1.length≤k.cap+tx.length+2:=by
 have h1:=Ol dn (C5 k).1 (C5 k).2.2 s;have h2:=(DZ dn (C5 k).1 (C5 k).2.1 (FF dn (C5 k).1 (C5 k).2.2 s).2).1;have h3:k.cap=(C5 k).2.1.cap+(C5 k).2.2.cap:=by rw[← Pj,← L8]
 unfold Gb;simp only[List.length_append,List.length_cons,List.length_nil];omega
def wD(φ:lU→Nd→Nat)(ds:DS)(x:lU):Nat:=match AS ds x with|some k=>φ x k|none=>0
theorem O2(g:lU→Nat)(n:lU):∀l:List lU,l.Nodup→(l.map g).sum≤g n+((l.filter (· != n)).map g).sum
 | [],_=>Nat.zero_le _
 |a::l,h=>by
   have ih:=O2 g n l (List.nodup_cons.1 h).2
   by_cases e:a=n
   · subst e
     have:(a::l).filter (· != a)=l:=by
       rw[List.filter_cons_of_neg (by simp),List.filter_eq_self];intro x hx;have:x≠a:=λe=>(List.nodup_cons.1 h).1 (e▸hx);simpa using this
     rw[this];simp
   · rw[List.filter_cons_of_pos (by simpa using e)]
     simp only[List.map_cons,List.sum_cons];omega
theorem R3{α:Type}{n x:lU}{v:α}{l:List (lU×α)}(h:x≠n):AS ((n,v)::l) x=AS l x:=by
 rw[DB,if_neg (by simpa using λe:n=x=>h e.symm)]
theorem Tz(φ:lU→Nd→Nat):∀(ds:DS)(l:List lU),l.Nodup→(∀x,x∈l→Bg ds x=true)→(l.map (wD φ ds)).sum≤(ds.map λp=>φ p.1 p.2).sum
 | [],l,_,h=>by
   cases l with
   |nil=>exact Nat.le_refl _
   |cons a l=>have:=h a (.head _);cases this
 |(n,k)::ds,l,hn,h=>by
   have h1:=O2 (wD φ ((n,k)::ds)) n l hn
   have h2:(l.filter (· != n)).map (wD φ ((n,k)::ds))=(l.filter (· != n)).map (wD φ ds):=List.map_congr_left λx hx=>by
     have:x≠n:=by simpa using (List.mem_filter.1 hx).2
     unfold wD;rw[R3 this]
   have h3:=Tz φ ds (l.filter (· != n)) (List.Sublist.nodup List.filter_sublist hn) λx hx=>by
     have hx':=List.mem_filter.1 hx;have h5:=h x hx'.1;have e:x≠n:=by simpa using hx'.2
     unfold Bg at h5 ⊢;rw[R3 e] at h5;exact h5
   have h4:wD φ ((n,k)::ds) n=φ n k:=by unfold wD;rw[DB,if_pos (by simp)]
   rw[h2] at h1;simp only[List.map_cons,List.sum_cons];omega
def aF(x:lU)(k:Nd):Nat:=k.cap+x.length+2
theorem Qt{α:Type}:∀l:List α,(l.map λ_=>1).sum=l.length
 | []=>rfl
 |a::l=>by simp only[List.map_cons,List.sum_cons,List.length_cons,Qt l];omega
theorem Vi{ds:DS}{s:H4}(h:Gd ds s):s.met.length≤ds.length:=by
 have h1:=Tz (λ_ _=>1) ds s.met h.1 h.2
 have e1:s.met.map (wD (λ_ _=>1) ds)=s.met.map λ_=>1:=List.map_congr_left λx hx=>by
   have:=h.2 x hx;unfold wD;unfold Bg at this
   cases hl:AS ds x with
   |none=>rw[hl] at this;cases this
   |some k=>rfl
 rw[e1,Qt] at h1;have:=Qt ds;omega
theorem Zm{ds:DS}{s:H4}(h:Gd ds s)(i:Nat):((s.met.take i).map (wD aF ds)).sum≤(ds.map λp=>aF p.1 p.2).sum :=
 Tz aF ds _ (List.Sublist.nodup (List.take_sublist _ _) h.1) λx hx=>h.2 x (List.mem_of_mem_take hx)
variable {i mb:Nat}{M:Nat→Prop}{dx:Nd}{a:Option Addr}{e:TypeId}
theorem VQ{ds:DS}{t d:lU}{s:H4}(hx:s.met[i]?=some d)(hd:AS ds d=some dx)(hi:i<ds.length) :
   KC ds (ds.length+1-i) i t s=KC ds (ds.length+1-(i+1)) (i+1) (t++(Gb (Bg ds) d dx s).1) (Gb (Bg ds) d dx s).2:=by
 rw[show ds.length+1-i=(ds.length+1-(i+1))+1 by omega,KC,hx];simp only[hd,Option.getD_some]
theorem YF{ds:DS}{t:lU}{s:H4}(hx:s.met.length≤i)(hi:i≤ds.length):KC ds (ds.length+1-i) i t s=(t,s):=by
 rw[show ds.length+1-i=(ds.length-i)+1 by omega,KC,List.getElem?_eq_none hx]
theorem YO{ds:DS}{T:Nat}{t d:lU}{s:H4}(hx:s.met[i]?=some d)(hd:AS ds d=some dx)(ht:t.length≤T+((s.met.take i).map (wD aF ds)).sum) :
   (t++(Gb (Bg ds) d dx s).1).length≤T+(((Gb (Bg ds) d dx s).2.met.take (i+1)).map (wD aF ds)).sum:=by
 obtain⟨z,hz⟩:=(Rl.data (ds:=ds) (s:=s) (tx:=d) (k:=dx)).pre;have hi:=(List.getElem?_eq_some_iff.1 hx).1;have hl:=Wo (Bg ds) d dx s;have hw:wD aF ds d=dx.cap+d.length+2:=by unfold wD;rw[hd];rfl
 rw[← hz,List.take_append_of_le_length (by omega),List.take_add_one,hx];simp only[List.map_append,List.sum_append,Option.toList_some,List.map_cons,List.map_nil,List.sum_cons,List.sum_nil,List.length_append];omega
theorem KX{α:Type}{n:lU}{v:α}:∀{l:List (lU×α)},AS l n=some v→(n,v)∈l
 |(k,x)::l,h=>by
   rw[DB] at h
   split at h
   · rename_i e;cases h;rw[eq_of_beq e];exact .head _
   · exact .tail _ (KX h)
theorem Nl:∀{nds:Nd}{p:lU×Nd},p∈Cw nds→nds.txb→p.2.size+1≤nds.size∧p.1.length≤100000∧p.2.txb
 |.cons op ln co tx nm k r,p,h,hx=>by
   have hr:p∈Cw r→p.2.size+1≤k.size+r.size+1∧p.1.length≤100000∧p.2.txb:=λh=>by
     have:=Nl h hx.2.2;exact⟨oM,this.2⟩
   show p.2.size+1≤k.size+r.size+1∧_;rw[Cw] at h
   split at h
   · rcases List.mem_append.1 h with h|h
     · exact hr h
     · rw[List.mem_singleton.1 h]
       exact⟨by simp only;omega,hx.1,hx.2.1⟩
   · exact hr h
theorem Ml:∀nds:Nd,((Cw nds).map λp=>aF p.1 p.2).sum≤nds.cap∧(Cw nds).length≤nds.len
 |.nil=>⟨Nat.le_refl _,Nat.le_refl _⟩
 |.cons op ln co tx nm k r=>by
   have h:=Ml r;rw[Cw];show _≤tx.length+8+k.cap+r.cap∧_≤r.len+1
   split
   · simp only[List.map_append,List.sum_append,List.map_cons,List.map_nil,List.sum_cons,List.sum_nil,aF,List.length_append,List.length_cons,List.length_nil] at h ⊢;omega
   · omega
theorem TH{a b:DS}{tx:lU}{k:Nd}(h:((a++(tx,k)::b).map (·.1)).Nodup):AS b tx=none:=by
 rw[List.map_append,List.nodup_append] at h;have h2:=(List.nodup_cons.1 h.2.1).1
 cases hl:AS b tx with
 |none=>rfl
 |some v=>exact absurd (List.mem_map.2 ⟨_,KX hl,rfl⟩) h2
def Qq:Nd→Prop
 |.nil=>True
 |.cons op _ _ _ _ k r=>(op=43→k≠.nil)∧Qq r
section
variable{ds:DS}{op ln co nm o l c m:Int}{tx x:lU}{k r k1 q:Nd}{out:List (lU×lU)}{w:lU×H4}
theorem WZ(h:(op==43)=false):Qw ds (.cons op ln co tx nm k r) out=Qw ds r out:=by cases k <;> (conv=>lhs;unfold Qw;rw[if_neg (by rw[h];decide)])
theorem Yl(h:(op==43)=true)(h2:((out.length:Int)==100)=true):Qw ds (.cons op ln co tx nm k r) out=.error (ln,co,4):=by cases k <;> (unfold Qw;rw[if_pos h,if_pos h2])
theorem Nj(h:(op==43)=true)(h2:((out.length:Int)==100)=false)(hw:M8 ds o x k1=w):Qw ds (.cons op ln co tx nm (.cons o l c x m k1 q) r) out=if !w.2.keeps then .error (l,c,17) else if w.1.length>1000 then .error (l,c,4) else Qw ds r (out++[(tx,w.1)]):=by
 rw[Qw,if_pos h,if_neg (by rw[h2];decide)];simp only[hw]
theorem ZK(h:(op==43)=true)(h2:((out.length:Int)==100)=false)(hw:M8 ds o x k1=w)(h3:(!w.2.keeps)=true):Qw ds (.cons op ln co tx nm (.cons o l c x m k1 q) r) out=.error (l,c,17):=by
 rw[Nj h h2 hw,if_pos h3]
theorem cP(h:(op==43)=true)(h2:((out.length:Int)==100)=false)(hw:M8 ds o x k1=w)(h3:(!w.2.keeps)=false)(h4:1000<w.1.length):Qw ds (.cons op ln co tx nm (.cons o l c x m k1 q) r) out=.error (l,c,4):=by
 rw[Nj h h2 hw,if_neg (by rw[h3];decide),if_pos h4]
theorem iE(h:(op==43)=true)(h2:((out.length:Int)==100)=false)(hw:M8 ds o x k1=w)(h3:(!w.2.keeps)=false)(h4:w.1.length≤1000):Qw ds (.cons op ln co tx nm (.cons o l c x m k1 q) r) out=Qw ds r (out++[(tx,w.1)]):=by
 rw[Nj h h2 hw,if_neg (by rw[h3];decide),if_neg oM]
end
def aD(mb:Nat)(ds:DS)(w:World)(f:Fq):Prop:=∃es,BF BN w mb es∧FJ w f ds es∧Ir es
theorem aD.stab{ds:DS}(hm:M mb):EU M (aD mb ds):=λ_ _ _ _ ⟨es,h1,h2,h3⟩ hF hb=>⟨es,h1.heap (hb mb hm),FJ.mono hF _ _ h2,h3⟩
theorem Zs{w:World}{c:Nat}{l:List lU}(h:BQ w e 1 a c l.length (l.map S)){x:lU}(hx:l[i]?=some x):∃b q,a=some ⟨b,0,none⟩∧AI w b q e∧q[i]?=some (S x):=by
 have hi:=(List.getElem?_eq_some_iff.1 hx).1;rcases h.2 with ⟨_,_,hz⟩|⟨b,q,ha,hb,hmc,_,hq,ht⟩
 · omega
 · refine⟨b,q,ha,hb,?_⟩
   have h1:(q.take (l.length*1))[i]?=some (S x):=by rw[ht,List.getElem?_map,hx];rfl
   rw[List.getElem?_take] at h1
   split at h1
   · exact h1
   · cases h1
end Go.SP
namespace Go.SW
variable {Q:AT}{σ:Ba}{X:Cx}{Fs:List (World→Fq→Prop)}{B:List FB}{fs:List Fr}{H:List HB}{n:Nat}{P:Program}
theorem tX{ds:List Deferred}{R:List RB}{k:Kc}(MI':Nat→Prop)(I':World→Fq→Prop)(h1:∀b,MI' b→X.MI b)(h2:∀w f,X.I w f→I' w f)(h3:EU MI' I')
   (h:A3 P n Q ds {X with MI:=MI',I:=I' } R B Fs k fs σ H):A3 P n Q ds X R B Fs k fs σ H:=λw f hM =>
 h w f {hM with res:=h2 w f hM.res,stab:=h3,mi:=λb hb=>hM.mi b (h1 b hb),own:=λb hb=>let ⟨x,y,z⟩:=hM.own b hb;⟨x,y,λh=>z (h1 b h)⟩}
end Go.SW
namespace Go.SP
open Go.SW Go.RowKit
variable {σ:Ba}{b i:Nat}{P:Program}{T e ty:TypeId}
theorem YY{w:World}{x:Operand}{k c:Nat}{l:List lU}{s:lU}(hx:ev σ x=some (.pointer (some ⟨b,0+i*1,none⟩)))(hT:AM P T=some (false,k))(hr:BQ w e 1 (some ⟨b,0,none⟩) c l.length (l.map S))(hl:l[i]?=some s):AG P σ (.load T x) ty w (S s) w:=by
 obtain⟨b',q,h1,h2,h3⟩:=Zs hr hl
 cases h1
 exact Ai hx hT h2 (by rw[Nat.zero_add,Nat.mul_one];exact h3)
theorem bM{k:Nd}(h:k≠.nil):∃op ln co tx nm k1 r,k=.cons op ln co tx nm k1 r:=by
 cases k with
 |nil=>exact absurd rfl h
 |cons op ln co tx nm k1 r=>exact⟨_,_,_,_,_,_,_,rfl⟩
theorem Gd.nil{ds:DS}{b:Bool}:Gd ds ⟨[],b⟩:=⟨List.nodup_nil,λ_ h=>by cases h⟩
end Go.SP
