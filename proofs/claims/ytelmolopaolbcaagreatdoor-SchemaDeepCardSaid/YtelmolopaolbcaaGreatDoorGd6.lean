/- What it rests on, part 6. -/
import Derived.Test.YtelmolopaolbcaaGreatDoorGd5
import Derived.Test.YtelmolopaolbcaaGreatDoorCards
import Derived.Test.YtelmolopaolbcaaGreatDoorTie
import Derived.OpenShut
import Derived.Lib.LaidU8
import Derived.Clock
import Derived.ProofKit
import Derived.Lay
import Derived.Stop.Joined
import Derived.Deep.DeepHandedRow
set_option linter.unusedVariables false
set_option linter.unusedSimpArgs false
namespace Go.Proofs.YtelmolopaolbcaaGreatDoor
open Go.SW Go.SP Go.RowKit Go.Proofs.Tryz
set_option maxHeartbeats 2000000 in
theorem VD(w:World)(f:Fq)(hv:Vl w f)(A:Ad)(hA:A.ok)(s:CS)(hC:As 84 163 A s w f)(hf:∀b,By A b→f b=0)(hw:D0 s)(hG:ET w f)(op ln co nm:Int)(tx:lU)(kids:Nd)(na:Option Addr)(nc:Nat)(hsz:kids.size≤200000)(htx:tx.length≤100000)(htb0:kids.txb)(hN:AD w f kids na nc)(hvb : -800000000000≤s.vars-kids.len)(hvb2:s.vars≤0) :
  BB prog 23 #[pB A.cb,.agg #[iV op,iV ln,iV co,S tx,iV nm,.slice na kids.len nc]] w (ED (α:=CS) (λ_=>.tuple #[]) (λx=>GP s ln co tx kids=.ok x∧D0 x∧x.fresh=s.fresh∧s.vars-kids.len≤x.vars∧x.vars≤s.vars) (By A) (λx=>As 84 163 A x) (λ_=>[]) w f) (PanE 67 (By A) (λer=>GP s ln co tx kids=.error er) w f):=by
 have hkl:=Nd.len_le kids;refine Mr (X:=XC 84 163 A s w f) (H:=[]) (R:=[]) (B:=[]) (Fs:=[λw f=>AD w f kids na nc,λw f=>ET w f]) (f:=f) func23 rfl rfl rfl (Kg hv hC hf ⟨hN,hG,tQ⟩ ⟨AD.mono,ET.mono,tQ⟩)<|Aa 6 [] (λb1=>λ_=>?_)
 cases hdl:AR s.datas tx with
 |none =>
  refine K2 (λw=>AI w A.cb [pB A.sb,.map (some A.km),.map (some A.dm),.map (some A.rm),iV s.vars] 84∧BE BI w A.dm (s.datas.map λp=>(p.1,iV p.2))) (λw f h _=>⟨h.blk,h.datas⟩) [0] Am (rd [0,1,2,3,4,5,6,7,8,9,10,11] .fin) rfl kR kR kR (λ_ _ _ _ _ h=>h)<|A2 3 [] (λ_=>Gn rfl rfl rfl (λw hK=>Ai rfl Qt hK.2.2.1 rfl)<|A2 2 [0] (y<|λ_=>Gn rfl rfl rfl (λw hK=>IG (K:=BI) (a:=tx) rfl rfl QP FD bO hK.2.2.2 hw.dd (by rw[Eg (λc=>Value.int .i64 c),hdl];rfl))<|A2 5 [] (λ_=>Bk<|Aa 2 [] (λ_=>C3 [0] Am (rd [0,1,2,3,4,5,6,10,11] (.br 7 (.rd 8 (.rd 9 (.br 12 .fin .fin))) .fin)) rfl kR<|A2 9 [0,0] (y<|aI (by simp;omega)<|aI (by simp;omega)<|y<|λ_=>?_)))));refine Ag rfl ?_ Aj;refine Br rfl rfl (eC Qk rfl rfl) (λw f hM=>Gz w f hM.vl hM.f1 G5 ([32]++tx++[32]) dC) (λx=>trivial) ?_;rintro⟨⟩ -;refine Aa 1 [] (λ_=>Au [0] rfl<|A2 2 [] (λ_=>Ag rfl ?_ Aj));refine D7 (α:=Unit) (val:=λ_=>.tuple #[]) (q:=λ_=>(!Dr G5 ([32]++tx++[32]))=true) (I':=λ_=>As 84 163 A s) (F':=λ_=>[]) (pe:=λer=>(!Dr G5 ([32]++tx++[32]))=false∧er=(ln,co,11)) (M:=λ_=>False) (T:=67) rfl rfl (eC Ek rfl rfl) (λ_ h=>h.elim) (λw f hM=>(Ci w f hM.vl (!Dr G5 ([32]++tx++[32])) ln co).mono (λ_ _ ⟨x,f2,h1,h2,h3,h4⟩=>⟨x,f2,h1,h2,h3.mono (λ_ h=>h.elim),(hM.call0 h3).res,h4⟩) λ_ _ h=>h) (λ_=>As.stab) (λ_=>trivial) (λer w2 f2 he hE=>⟨rfl,er,f2,rfl,(by have h9:Dr G5 ([32]++tx++[32])=true:=Fj he.1;rw[GP,if_pos (by rw[hdl,h9];rfl),he.2]),hE⟩) ?_;rintro⟨⟩ hnd;have hnd0:¬((AR s.datas tx).isSome||Dr G5 ([32]++tx++[32]))=true:=by rw[hdl,show Dr G5 ([32]++tx++[32])=false from EU hnd];decide
  refine Aa 1 [] (λ_=>Au [0] rfl<|Bk<|Aa 3 [] (λ_=>X5 (K:=BI) rfl rfl λvm hvm=>Aa 7 [0] (y<|λ_=>Br rfl rfl (eC Bt rfl rfl) (λw f hM=>Bl w f hM.vl tx) (λx=>trivial) ?_)));rintro⟨⟩ -;refine Aa 19 [0,1] (λb2=>y<|y<|λ_=>NK 3 1<|NK 76 4 ?_);refine Fp (α:=Nat×Nd×Int×List (lU×T1)×Ty×List Value×Option Addr×Nat×List Int×Option Addr×Nat) (λx=>x.2.1.len) (λx=>x.1+x.2.1.len=kids.len∧DX ln co kids s.vars [] .nil []=DX ln co x.2.1 x.2.2.1 x.2.2.2.1 x.2.2.2.2.1 x.2.2.2.2.2.2.2.2.1∧x.2.2.2.2.1.len=x.2.2.2.2.2.2.2.2.1.length∧x.2.2.2.2.2.2.2.2.1.length≤x.1∧x.2.2.2.2.1.bnd∧Iw (pQ x.2.2.2.1)∧(∀n t,AR x.2.2.2.1 n=some t→∃q,t=.var q)∧s.vars-x.1≤x.2.2.1∧x.2.2.1≤s.vars) (λx=>(E8 0 (pB A.cb) 3 (pB b1) 6 (.map (some vm)) 7 (pB b2) 8 (.slice x.2.2.2.2.2.2.2.2.2.1 x.2.2.2.2.2.2.2.2.1.length x.2.2.2.2.2.2.2.2.2.2) 48 (.slice na kids.len nc) 49 (iV (kids.len:Int)) 50 (iV (x.1:Int)))) (λx=>⟨By A,λb=>By A b∨b=vm,DU 84 163 A ({s with vars:=x.2.2.1}:CS) vm x.2.2.2.1,w,f⟩) (λx=>[⟨b2,[iV 1,iV 0,S tx,.slice x.2.2.2.2.2.2.1 x.2.2.2.2.2.2.2.2.1.length x.2.2.2.2.2.2.2.1],76,true⟩,⟨b1,[iV op,iV ln,iV co,S tx,iV nm,.slice na kids.len nc],74,true⟩]) (λx=>[⟨76,4,x.2.2.2.2.2.2.1,x.2.2.2.2.2.2.2.1,x.2.2.2.2.2.2.2.2.1.length,x.2.2.2.2.2.1⟩,⟨3,1,x.2.2.2.2.2.2.2.2.2.1,x.2.2.2.2.2.2.2.2.2.2,x.2.2.2.2.2.2.2.2.1.length,x.2.2.2.2.2.2.2.2.1.map λn=>iV n⟩]) (λx=>[]) (λx=>[λw f=>AT w f na x.1 x.2.1,λw f=>Be w f x.2.2.2.2.1 x.2.2.2.2.2.1,λw f=>ET w f,λw f=>AD w f kids na nc]) (0,kids,s.vars,[],.nil,[],none,0,[],none,0) ⟨Nat.zero_add _,rfl,rfl,Nat.le_refl _,tQ,tQ,λ_ _ h=>(by cases h),by dsimp only;omega,Int.le_refl _⟩ lE (λw f hM=>hM.more (B':=[]) (F':=[λw f=>AT w f na 0 kids,λw f=>Be w f .nil []]) nE (AE.mem ⟨AD.at hM.f0,rfl,tQ⟩) (Ax.mem ⟨AT.mono,Be.mono,tQ⟩) |>.less sR sR nE (mR [0,1,3,2])) ?_;rintro⟨i,r,v,m,self,xs,ra,rc,nums,na2,nc2⟩ ⟨hi,hdv,hsl,hnl,hsb,hdm,hmv,hv1,hv2⟩;dsimp only at hi hdv hsl hnl hsb hdm hmv hv1 hv2 ⊢;refine Aa 6 [] (λ_=>AJ 51 rfl rfl (λh1=>?_) (λh1=>?_));refine Aa 6 [] (λ_=>?_);have hil:i<kids.len:=by have:=of_decide_eq_true h1;omega
  obtain⟨op2,ln2,co2,tx2,nm2,k2,r,rfl⟩:=Nd.cases1 r oM;have hi2:i+(r.len+1)=kids.len:=hi;refine HF 0 rfl ?_;rintro⟨eb,eo,ka,kc⟩ rfl;refine Aa 15 [100,0,0,0] (aI oM<|y2<|λb3=>y<|y<|λ_=>AJ 56 rfl rfl (λh2=>?_) (λh2=>?_));exact Aa 9 [] (aI ⟨oM,oM⟩<|λ_=>CX ((i+1,r,v,m,self,xs,ra,rc,nums,na2,nc2)) (show r.len<(Nd.cons op2 ln2 co2 tx2 nm2 k2 r).len from Nat.lt_succ_self _) ⟨show i+1+r.len=_ by omega,hdv.trans (Sm (by simpa using h2)),hsl,show nums.length≤i+1 by omega,hsb,hdm,hmv,show s.vars-((i+1:Nat):Int)≤v by omega,hv2⟩ lE (λw f hM=>⟨_,hM.less (sD (sK (sK sZ))) sR nE (mR [1,3,4,5])⟩));refine Aa 4 [] (λ_=>?_);have hop2:(op2==31)=true:=by have h9:(op2 != 31)=false:=h2;simpa using h9
  cases hvl:AR m tx2 with
  |none =>
   refine Aa 4 [0] (y<|λ_=>CW rfl rfl (λw f hM=>IG (K:=BI) (a:=tx2) rfl rfl Ll FD MV hM.res.2 hdm (by rw[Eg (λt=>tV t none 0),hvl];rfl))<|Aa 14 [0,3] (λb4=>y<|y<|λ_=>D7 (α:=Unit) (val:=λ_=>.tuple #[]) (q:=λ_=>true=true) (I':=λ_=>DU 84 163 A ({s with vars:=v}:CS) vm m) (F':=λ_=>[]) (pe:=λer=>true=false∧er=(ln,co,11)) (M:=λ_=>False) (T:=67) rfl rfl (eC Ek rfl rfl) (λ_ h=>h.elim) (λw f hM=>(Ci w f hM.vl true ln co).mono (λ_ _ ⟨x,f2,h1,h2,h3,h4⟩=>⟨x,f2,h1,h2,h3.mono (λ_ h=>h.elim),(hM.call0 h3).res,h4⟩) λ_ _ h=>h) (λ_=>DU.stab) (λ_=>trivial) (λer w2 f2 he hE=>⟨rfl,er,f2,rfl,(by cases he.1),hE⟩) ?_));rintro⟨⟩ hnd;refine Aa 7 [] (λ_=>CW (v:=iV v) rfl rfl (λw f hM=>Ai rfl Hq hM.res.1.blk rfl)<|Aa 3 [] (aI ⟨oM,oM⟩<|λ_=>tJ hA hvm rfl rfl rfl Hq<|Aa 3 [] (λ_=>K2 (λw=>AI w A.cb [pB A.sb,.map (some A.km),.map (some A.dm),.map (some A.rm),iV (v-1)] 84) (λw f h _=>h.1.blk) [0,1,2,3] Am (rd [0,1,2,3,4,5,6] (.br 7 (.br 8 .fin .fin) .fin)) rfl kR kR kR (λ_ _ _ _ _ h=>h)<|A2 6 [1] (y<|λ_=>Gn rfl rfl rfl (λw hK=>(Ai rfl Hq hK.2.2 rfl:AG _ _ _ _ _ (iV (v-1)) _))<|Ag rfl ?_ Aj))));refine Br rfl rfl (eC G1 rfl rfl) (λw f hM=>DB w f hM.vl (v-1)) (λx=>trivial) ?_;rintro⟨⟩ -;refine Aa 1 [] (λ_=>AW [0,1,2,3] (λw f h _=>h.1.blk) rfl (λ_ h=>h)<|Ag rfl ?_ Aj);refine vC (q:=v-1) hvm rfl rfl rfl rfl Ll FD hdm hvl<|Aa 1 [] (λ_=>AW [0,1,2,3] (λw f h _=>h.1.blk) rfl (λ_ h=>h)<|Bk<|Aa 2 [] (λ_=>K2 (λw=>AI w A.cb [pB A.sb,.map (some A.km),.map (some A.dm),.map (some A.rm),iV (v-1)] 84) (λw f h _=>h.1.blk) [0,1,3] Am (rd [0,2,3,4,5] (.br 1 (.br 6 (.br 7 (.br 8 (.rd 9 (.br 10 .fin .fin)) .fin) .fin) .fin) (.br 6 (.br 1 (.br 7 (.br 8 (.rd 9 (.br 10 .fin .fin)) .fin) .fin) (.br 7 (.br 1 (.br 8 (.rd 9 (.br 10 .fin .fin)) .fin) .fin) .fin)) .fin))) rfl kR kR kR (λ_ _ _ _ _ h=>h)<|A2 4 [] (λ_=>Gn rfl rfl rfl (λw hK=>(Ai rfl Hq hK.2.2 rfl:AG _ _ _ _ _ (iV (v-1)) _))<|Ag rfl ?_ ?_)));refine Aa 2 [2] (y<|λ_=>AW [0,1,3] (λw f h _=>h.1.blk) rfl (λ_ h=>h)<|Ag rfl ?_ Aj);refine Br rfl rfl (eC G1 rfl rfl) (λw f hM=>DB w f hM.vl (v-1)) (λx=>trivial) ?_;rintro⟨⟩ -;refine Aa 1 [] (λ_=>AW [0,1,3] (λw f h _=>h.1.blk) rfl (λ_ h=>h)<|Ag rfl ?_ Aj);refine Aa 2 [] (λb5=>λ_=>AW [1,2,4] (λw f h _=>h.1.blk) rfl (λ_ h=>h)<|Ag rfl ?_ Aj);refine Da 0 0 rfl rfl CM rfl rfl rfl rfl rfl rfl rfl rfl (λ_ _=>rfl) oM oM λra2 rc2=>Aa 1 [] (λ_=>AW [1,2,4] (λw f h _=>h.1.blk) rfl (λ_ h=>h)<|A2 1 [] (λ_=>Ag rfl ?_ Aj));refine Aa 2 [3] (y<|λ_=>AW [1,2,4] (λw f h _=>h.1.blk) rfl (λ_ h=>h)<|Bk<|Aa 6 [] (λ_=>CW (v:=iV (v-1)) rfl rfl (λw f hM=>Ai rfl Hq hM.res.1.blk rfl)<|Aa 1 [] (λb6=>λ_=>Da 1 0 rfl rfl L5 rfl rfl rfl rfl rfl rfl rfl rfl (λ_ _=>rfl) oM oM λna3 nc3=>Aa 8 [] (aI ⟨oM,oM⟩<|λ_=>?_))))
   exact CX ((i+1,r,v-1,(tx2,.var (v-1))::m,self.snoc (.var (v-1)),xs++tC (.var (v-1)) none 0,ra2,rc2,(nums++[v-1]),na3,nc3)) (show r.len<(Nd.cons op2 ln2 co2 tx2 nm2 k2 r).len from Nat.lt_succ_self _) ⟨show i+1+r.len=_ by omega,hdv.trans (JD hop2 hvl),show (self.snoc _).len=_ by rw[Ty.len_snoc,hsl,List.length_append];rfl,show (nums++[v-1]).length≤i+1 by rw[List.length_append];simp;omega,Ty.bnd_snoc hsb (Bv _),II (λt=>tV t none 0) hdm hvl,λn t h=>by rw[DE] at h;split at h;(cases h;exact⟨_,rfl⟩);exact hmv n t h,show s.vars-((i+1:Nat):Int)≤v-1 by omega,show v-1≤s.vars by omega⟩ (tF rfl rfl rfl rfl (Eq.trans (b:=some (Value.slice na3 (nums.length+1) nc3)) rfl (by dsimp only;rw[List.length_append];rfl)) rfl rfl rfl) (λw f hM=>⟨_,by have hM9:=(hM.more (B':=[]) (F':=[λw f=>Be w f (self.snoc (.var (v-1))) (xs++tC (.var (v-1)) none 0)]) nE (AE.mem ⟨Be.snoc (Ak.nil _ _ _ _) hM.f3,tQ⟩) (Ax.mem ⟨Be.mono,tQ⟩)).less (sD (sD (sD (sD (sK (sK sZ)))))) sR (B':=[]) nE (F':=[λw f=>AT w f (some ⟨eb,eo,none⟩) (i+1) r,λw f=>Be w f (self.snoc (.var (v-1))) (xs++tC (.var (v-1)) none 0),λw f=>ET w f,λw f=>AD w f kids (some ⟨eb,eo,none⟩) nc]) (mR [2,0,5,6]);dsimp only;rw[show (nums++[v-1]).length=nums.length+1 by rw[List.length_append];rfl,List.map_append];exact hM9⟩);refine Ag rfl ?_ Aj;refine Br rfl rfl (eC G1 rfl rfl) (λw f hM=>DB w f hM.vl (v-1)) (λx=>trivial) ?_;rintro⟨⟩ -;refine Aa 1 [] (λ_=>AW [0,1,3] (λw f h _=>h.1.blk) rfl (λ_ h=>h)<|Ag rfl ?_ ?_);refine Aa 2 [2] (y<|λ_=>AW [0,1,3] (λw f h _=>h.1.blk) rfl (λ_ h=>h)<|Ag rfl ?_ Aj);refine Aa 2 [] (λb7=>λ_=>AW [1,2,4] (λw f h _=>h.1.blk) rfl (λ_ h=>h)<|Ag rfl ?_ Aj);refine Da 0 0 rfl rfl CM rfl rfl rfl rfl rfl rfl rfl rfl (λ_ _=>rfl) oM oM λra2 rc2=>Aa 1 [] (λ_=>AW [1,2,4] (λw f h _=>h.1.blk) rfl (λ_ h=>h)<|A2 1 [] (λ_=>Ag rfl ?_ Aj));refine Aa 2 [3] (y<|λ_=>AW [1,2,4] (λw f h _=>h.1.blk) rfl (λ_ h=>h)<|Bk<|Aa 6 [] (λ_=>CW (v:=iV (v-1)) rfl rfl (λw f hM=>Ai rfl Hq hM.res.1.blk rfl)<|Aa 1 [] (λb8=>λ_=>Da 1 0 rfl rfl L5 rfl rfl rfl rfl rfl rfl rfl rfl (λ_ _=>rfl) oM oM λna3 nc3=>Aa 8 [] (aI ⟨oM,oM⟩<|λ_=>?_))))
   exact CX ((i+1,r,v-1,(tx2,.var (v-1))::m,self.snoc (.var (v-1)),xs++tC (.var (v-1)) none 0,ra2,rc2,(nums++[v-1]),na3,nc3)) (show r.len<(Nd.cons op2 ln2 co2 tx2 nm2 k2 r).len from Nat.lt_succ_self _) ⟨show i+1+r.len=_ by omega,hdv.trans (JD hop2 hvl),show (self.snoc _).len=_ by rw[Ty.len_snoc,hsl,List.length_append];rfl,show (nums++[v-1]).length≤i+1 by rw[List.length_append];simp;omega,Ty.bnd_snoc hsb (Bv _),II (λt=>tV t none 0) hdm hvl,λn t h=>by rw[DE] at h;split at h;(cases h;exact⟨_,rfl⟩);exact hmv n t h,show s.vars-((i+1:Nat):Int)≤v-1 by omega,show v-1≤s.vars by omega⟩ (tF rfl rfl rfl rfl (Eq.trans (b:=some (Value.slice na3 (nums.length+1) nc3)) rfl (by dsimp only;rw[List.length_append];rfl)) rfl rfl rfl) (λw f hM=>⟨_,by have hM9:=(hM.more (B':=[]) (F':=[λw f=>Be w f (self.snoc (.var (v-1))) (xs++tC (.var (v-1)) none 0)]) nE (AE.mem ⟨Be.snoc (Ak.nil _ _ _ _) hM.f3,tQ⟩) (Ax.mem ⟨Be.mono,tQ⟩)).less (sD (sD (sD (sD (sK (sK sZ)))))) sR (B':=[]) nE (F':=[λw f=>AT w f (some ⟨eb,eo,none⟩) (i+1) r,λw f=>Be w f (self.snoc (.var (v-1))) (xs++tC (.var (v-1)) none 0),λw f=>ET w f,λw f=>AD w f kids (some ⟨eb,eo,none⟩) nc]) (mR [2,0,5,6]);dsimp only;rw[show (nums++[v-1]).length=nums.length+1 by rw[List.length_append];rfl,List.map_append];exact hM9⟩);refine Ag rfl ?_ Aj;refine Aa 2 [] (λb9=>λ_=>AW [1,2,4] (λw f h _=>h.1.blk) rfl (λ_ h=>h)<|Ag rfl ?_ Aj);refine Aa 2 [3] (y<|λ_=>AW [1,2,4] (λw f h _=>h.1.blk) rfl (λ_ h=>h)<|Ag rfl ?_ Aj);refine Da 0 0 rfl rfl CM rfl rfl rfl rfl rfl rfl rfl rfl (λ_ _=>rfl) oM oM λra2 rc2=>Aa 1 [] (λ_=>AW [1,2,4] (λw f h _=>h.1.blk) rfl (λ_ h=>h)<|A2 1 [] (λ_=>Ag rfl ?_ Aj));refine Aa 2 [3] (y<|λ_=>AW [1,2,4] (λw f h _=>h.1.blk) rfl (λ_ h=>h)<|Bk<|Aa 6 [] (λ_=>CW (v:=iV (v-1)) rfl rfl (λw f hM=>Ai rfl Hq hM.res.1.blk rfl)<|Aa 1 [] (λb10=>λ_=>Da 1 0 rfl rfl L5 rfl rfl rfl rfl rfl rfl rfl rfl (λ_ _=>rfl) oM oM λna3 nc3=>Aa 8 [] (aI ⟨oM,oM⟩<|λ_=>?_))))
   exact CX ((i+1,r,v-1,(tx2,.var (v-1))::m,self.snoc (.var (v-1)),xs++tC (.var (v-1)) none 0,ra2,rc2,(nums++[v-1]),na3,nc3)) (show r.len<(Nd.cons op2 ln2 co2 tx2 nm2 k2 r).len from Nat.lt_succ_self _) ⟨show i+1+r.len=_ by omega,hdv.trans (JD hop2 hvl),show (self.snoc _).len=_ by rw[Ty.len_snoc,hsl,List.length_append];rfl,show (nums++[v-1]).length≤i+1 by rw[List.length_append];simp;omega,Ty.bnd_snoc hsb (Bv _),II (λt=>tV t none 0) hdm hvl,λn t h=>by rw[DE] at h;split at h;(cases h;exact⟨_,rfl⟩);exact hmv n t h,show s.vars-((i+1:Nat):Int)≤v-1 by omega,show v-1≤s.vars by omega⟩ (tF rfl rfl rfl rfl (Eq.trans (b:=some (Value.slice na3 (nums.length+1) nc3)) rfl (by dsimp only;rw[List.length_append];rfl)) rfl rfl rfl) (λw f hM=>⟨_,by have hM9:=(hM.more (B':=[]) (F':=[λw f=>Be w f (self.snoc (.var (v-1))) (xs++tC (.var (v-1)) none 0)]) nE (AE.mem ⟨Be.snoc (Ak.nil _ _ _ _) hM.f3,tQ⟩) (Ax.mem ⟨Be.mono,tQ⟩)).less (sD (sD (sD (sD (sK (sK sZ)))))) sR (B':=[]) nE (F':=[λw f=>AT w f (some ⟨eb,eo,none⟩) (i+1) r,λw f=>Be w f (self.snoc (.var (v-1))) (xs++tC (.var (v-1)) none 0),λw f=>ET w f,λw f=>AD w f kids (some ⟨eb,eo,none⟩) nc]) (mR [2,0,5,6]);dsimp only;rw[show (nums++[v-1]).length=nums.length+1 by rw[List.length_append];rfl,List.map_append];exact hM9⟩)
  |some tv =>
   obtain⟨q0,rfl⟩:=hmv tx2 tv hvl;exact Aa 4 [0] (y<|λ_=>CW rfl rfl (λw f hM=>IJ (K:=BI) (a:=tx2) (v:=tV (.var q0) none 0) rfl rfl Ll FD MV hM.res.2 hdm (by rw[Eg (λt=>tV t none 0),hvl];rfl))<|Aa 14 [0,3] (λb11=>y<|y<|λ_=>Nw rfl rfl (eC Ek rfl rfl) (λ_ h=>h.elim) (λw f hM=>(Ci w f hM.vl false ln co).mono (λ_ _ ⟨_,_,_,h,_⟩=>by cases h) λ_ _ h=>h) (λer w2 f2 he hE=>⟨rfl,er,f2,rfl,(by rw[GP,if_neg hnd0,hdv,TG hop2 hvl,he.2]),hE⟩)))
  refine Aa 3 [] (λ_=>ES<|Aa 3 [] (λ_=>?_));obtain rfl:r=.nil:=Nd.len0 (by have:=of_decide_eq_false h1;omega);have hdv2:DX ln co kids s.vars [] .nil []=.ok (v,m,self,nums):=hdv;have hil0:i≤kids.len:=oM;refine NT (λw f=>Ak w f self ra rc) Ak.mono (λw f hM=>Hc hM hM.f1)<|NT (λw f=>BJ w f nums na2 nc2) BJ.mono (λw f hM=>LP hM) ?_;have hwv:D0 ({s with vars:=v}:CS):=hw.setVars;refine K2 (λw=>AI w A.cb [pB A.sb,.map (some A.km),.map (some A.dm),.map (some A.rm),iV v] 84) (λw f h _=>h.1.blk) [0,1] Am (rd [0,1,2,3,4,5,6,7] (.br 8 .fin .fin)) rfl kR kR kR (λ_ _ _ _ _ h=>h)<|A2 3 [] (λ_=>Gn rfl rfl rfl (λw hK=>Ai rfl Qt hK.2.2 rfl)<|A2 4 [1] (y<|λ_=>Ag rfl ?_ Aj));refine sB hA hvm hwv rfl rfl rfl rfl QP FD hdl<|Aa 1 [] (λ_=>AW [0,1] (λw f h _=>h.1.blk) rfl (λ_ h=>h)<|Bk<|Aa 10 [1] (y<|λ_=>?_));refine Fp (α:=Nat×Nd×List (lU×Mk)) (λx=>x.2.1.len) (λx=>x.1+x.2.1.len=kids.len∧D2 ((tx,(nums.length:Int))::s.datas) m (.con tx self) nums kids s.cons=D2 ((tx,(nums.length:Int))::s.datas) m (.con tx self) nums x.2.1 x.2.2∧D0 ({s with vars:=v,datas:=(tx,(nums.length:Int))::s.datas,cons:=x.2.2}:CS)∧x.2.1.txb∧x.2.1.size≤kids.size) (λx=>(E7 0 (pB A.cb) 6 (.map (some vm)) 7 (pB b2) 8 (.slice na2 nums.length nc2) 111 (.slice na kids.len nc) 112 (iV (kids.len:Int)) 113 (iV (x.1:Int)))) (λx=>⟨By A,λb=>By A b∨b=vm,DU 84 163 A ({s with vars:=v,datas:=(tx,(nums.length:Int))::s.datas,cons:=x.2.2}:CS) vm m,w,f⟩) (λx=>[⟨b2,[iV 1,iV 0,S tx,.slice ra nums.length rc],76,true⟩,⟨b1,[iV op,iV ln,iV co,S tx,iV nm,.slice na kids.len nc],74,true⟩]) (λx=>[]) (λx=>[]) (λx=>[λw f=>AT w f na x.1 x.2.1,λw f=>BJ w f nums na2 nc2,λw f=>Ak w f self ra rc,λw f=>ET w f]) (0,kids,s.cons) ⟨Nat.zero_add _,rfl,(hwv.addData hdl),htb0,Nat.le_refl _⟩ lE (λw f hM=>hM.more (B':=[]) (F':=[λw f=>AT w f na 0 kids]) nE (AE.mem ⟨AD.at hM.f5,tQ⟩) (Ax.mem ⟨AT.mono,tQ⟩) |>.less sR sR nE (mR [0,1,2,5])) ?_;rintro⟨j,r,cl⟩ ⟨hi3,hdc,hwc,htxb,hrs⟩;dsimp only at hi3 hdc hwc htxb hrs ⊢;refine Aa 6 [] (λ_=>AJ 114 rfl rfl (λh3=>?_) (λh3=>?_));refine Aa 6 [] (λ_=>?_);have hil:j<kids.len:=by have:=of_decide_eq_true h3;omega
  obtain⟨op2,ln2,co2,tx2,nm2,k2,r,rfl⟩:=Nd.cases1 r oM;have hi2:j+(r.len+1)=kids.len:=hi3;obtain⟨htx2,hkx2,hrx2⟩:=htxb;have hrs2:k2.size+r.size+1≤kids.size:=hrs;have hkl2:=Nd.len_le k2;refine HF 0 rfl ?_;rintro⟨eb,eo,ka,kc⟩ rfl;refine Aa 15 [100,0,0,0] (aI oM<|y2<|λb12=>y<|y<|λ_=>AJ 119 rfl rfl (λh4=>?_) (λh4=>?_));exact Aa 9 [] (aI ⟨oM,oM⟩<|λ_=>CX ((j+1,r,cl)) (show r.len<(Nd.cons op2 ln2 co2 tx2 nm2 k2 r).len from Nat.lt_succ_self _) ⟨show j+1+r.len=_ by omega,hdc.trans (RP (by simpa using h4)),hwc,hrx2,show r.size≤_ by omega⟩ lE (λw f hM=>⟨_,hM.less (sD (sK (sK sZ))) sR nE (mR [1,3,4,5])⟩));refine Aa 4 [] (λ_=>?_);have hop2:(op2==42)=true:=by have h9:(op2 != 42)=false:=h4;simpa using h9
  refine fI (λes w f=>DU 84 163 A ({s with vars:=v,datas:=(tx,(nums.length:Int))::s.datas,cons:=cl}:CS) vm m w f∧BE BI w A.km es∧BT w f cl es) (λw f h=>let ⟨es,h1,h2⟩:=h.1.cons;⟨es,h,h1,h2⟩) (λes w f w' f' h hF hb=>⟨DU.stab w f w' f' h.1 hF hb,h.2.1.heap (hb _ (.inl (.inr (.inr (.inr (.inl rfl)))))),BT.mono hF _ _ h.2.2⟩) λes=>Io (λw f hM=>(show Iw es from BT.dis hM.res.2.2 hwc.dc)) λhdis=>?_
  cases hcl:AR cl tx2 with
  |none =>
   refine Io (λw f hM=>(BT.look hM.res.2.2).1 hcl) λhlk=>K2 (λw=>AI w A.cb [pB A.sb,.map (some A.km),.map (some A.dm),.map (some A.rm),iV v] 84∧BE BI w A.km es) (λw f h _=>⟨h.1.1.blk,h.2.1⟩) [0,1,2] Am (rd [0,1,2,3,4,5,6,7,8,9] (.br 10 (.br 11 (.rd 12 .fin) .fin) .fin)) rfl kR kR kR (λ_ _ _ _ _ h=>h)<|A2 3 [] (λ_=>Gn rfl rfl rfl (λw hK=>Ai rfl Og hK.2.2.1 rfl)<|A2 2 [0] (y<|λ_=>Gn rfl rfl rfl (λw hK=>IG (K:=BI) (a:=tx2) rfl rfl OK FD OX hK.2.2.2 hdis hlk)<|A2 3 [] (λ_=>Ag rfl ?_ Aj)));refine Aa 2 [] (λb13=>λ_=>AW [1,2,3] (λw f h _=>⟨h.1.1.blk,h.2.1⟩) rfl (λ_ h=>h)<|Ag rfl ?_ Aj);refine Aa 2 [0] (y<|λ_=>AW [1,2,3] (λw f h _=>⟨h.1.1.blk,h.2.1⟩) rfl (λ_ h=>h)<|A2 1 [] (λ_=>Bk<|Aa 7 [1] (y<|λ_=>D7 (α:=Unit) (val:=λ_=>.tuple #[]) (q:=λ_=>true=true) (I':=λ_=>DU 84 163 A ({s with vars:=v,datas:=(tx,(nums.length:Int))::s.datas,cons:=cl}:CS) vm m) (F':=λ_=>[]) (pe:=λer=>true=false∧er=(ln2,co2,11)) (M:=λ_=>False) (T:=67) rfl rfl (eC Ek rfl rfl) (λ_ h=>h.elim) (λw f hM=>(Ci w f hM.vl true ln2 co2).mono (λ_ _ ⟨x,f2,h1,h2,h3,h4⟩=>⟨x,f2,h1,h2,h3.mono (λ_ h=>h.elim),(hM.call0 h3).res.1,h4⟩) λ_ _ h=>h) (λ_=>DU.stab) (λ_=>trivial) (λer w2 f2 he hE=>⟨rfl,er,f2,rfl,(by cases he.1),hE⟩) ?_)));rintro⟨⟩ hnd;refine Aa 21 [2,0,2] (y<|λb14=>y<|y<|λ_=>NK 76 4 ?_);refine Fp (α:=Nat×Nd×Ty×List Value×Option Addr×Nat) (λx=>x.2.1.len) (λx=>x.1+x.2.1.len=k2.len∧x.2.2.1.len=x.1∧FJ ((tx,(nums.length:Int))::s.datas) m k2=(match FJ ((tx,(nums.length:Int))::s.datas) m x.2.1 with|.error x=>.error x|.ok l=>.ok (x.2.2.1.app l))∧x.2.2.1.bnd∧x.2.1.txb∧x.2.1.size≤k2.size) (λx=>(wJ 0 (pB A.cb) 6 (.map (some vm)) 7 (pB b2) 8 (.slice na2 nums.length nc2) 14 (pB b12) 17 (pB b14) 111 (.slice (some ⟨eb,eo,none⟩) kids.len nc) 112 (iV (kids.len:Int)) 113 (iV (j:Int)) 139 (.slice ka k2.len kc) 140 (iV (k2.len:Int)) 141 (iV (x.1:Int)))) (λx=>⟨By A,λb=>By A b∨b=vm,DU 84 163 A ({s with vars:=v,datas:=(tx,(nums.length:Int))::s.datas,cons:=cl}:CS) vm m,w,f⟩) (λx=>[⟨b14,[.slice x.2.2.2.2.1 x.1 x.2.2.2.2.2,iV 1,iV 0,S tx,.slice ra nums.length rc,.slice na2 nums.length nc2],120,true⟩,⟨b12,Kc op2 ln2 co2 tx2 nm2 ka k2.len kc,74,true⟩,⟨b2,[iV 1,iV 0,S tx,.slice ra nums.length rc],76,true⟩,⟨b1,[iV op,iV ln,iV co,S tx,iV nm,.slice (some ⟨eb,eo,none⟩) kids.len nc],74,true⟩]) (λx=>[⟨76,4,x.2.2.2.2.1,x.2.2.2.2.2,x.1,x.2.2.2.1⟩]) (λx=>[]) (λx=>[λw f=>AT w f ka x.1 x.2.1,λw f=>Be w f x.2.2.1 x.2.2.2.1,λw f=>ET w f,λw f=>BJ w f nums na2 nc2,λw f=>Ak w f self ra rc,λw f=>AT w f (some ⟨eb,eo,none⟩) (j+1) r]) (0,k2,.nil,[],none,0) ⟨Nat.zero_add _,rfl,Mu,tQ,hkx2,Nat.le_refl _⟩ lE (λw f hM=>hM.more (B':=[]) (F':=[λw f=>AT w f ka 0 k2,λw f=>Be w f .nil []]) nE (AE.mem ⟨AD.at hM.f0,rfl,tQ⟩) (Ax.mem ⟨AT.mono,Be.mono,tQ⟩) |>.less (sK (sD (sK (sK (sK sZ))))) sR nE (mR [0,1,7,5,6,3])) ?_;rintro⟨i4,r4,dn,xs4,ra5,rc5⟩ ⟨hi4,hdl2,hty,hdb,htxb4,hrs4⟩
   dsimp only at hi4 hdl2 hty hdb htxb4 hrs4 ⊢;refine Aa 6 [] (λ_=>AJ 142 rfl rfl (λh5=>?_) (λh5=>?_));refine Aa 6 [] (λ_=>?_);have hil4:i4<k2.len:=by have:=of_decide_eq_true h5;omega
   obtain⟨op3,ln3,co3,tx3,nm3,k3,r4,rfl⟩:=Nd.cases1 r4 oM;have hi5:i4+(r4.len+1)=k2.len:=hi4;obtain⟨htx3,hkx3,hrx3⟩:=htxb4;have hrs4b:k3.size+r4.size+1≤k2.size:=hrs4;refine HF 0 rfl ?_;rintro⟨eb4,eo4,ka4,kc4⟩ rfl;refine Aa 7 [100,0,0] (aI oM<|y2<|λb15=>y<|λ_=>C3 [0,2,3,4] Am (rd [0,2,3,4] (.br 1 (.br 5 (.br 6 (.br 7 (.rd 8 (.br 9 .fin .fin)) .fin) .fin) .fin) (.br 5 (.br 1 (.br 6 (.br 7 (.rd 8 (.br 9 .fin .fin)) .fin) .fin) (.br 6 (.br 1 (.br 7 (.rd 8 (.br 9 .fin .fin)) .fin) .fin) .fin)) .fin))) rfl kR<|A2 4 [0] (y<|λ_=>Ag rfl ?_ ?_));refine Aa 2 [1] (y<|λ_=>Au [0,2,3,4] rfl<|Ag rfl ?_ Aj);refine D7 (I':=λ_=>DU 84 163 A ({s with vars:=v,datas:=(tx,(nums.length:Int))::s.datas,cons:=cl}:CS) vm m) (M:=λ_=>False) (α:=T1×Option Addr×Nat) (val:=λx=>tV x.1 x.2.1 x.2.2) (q:=λx=>CE ((tx,(nums.length:Int))::s.datas) m op3 ln3 co3 tx3 k3=.ok x.1∧x.1.bnd) (F':=λx=>[λw f=>Ak w f x.1.kids x.2.1 x.2.2]) (pe:=λer=>CE ((tx,(nums.length:Int))::s.datas) m op3 ln3 co3 tx3 k3=.error er) (T:=67) rfl rfl (eC Nz rfl rfl) (λ_ h=>h.elim) (λw f hM=>(Ks (k3.size+1) w f hM.vl A ({s with vars:=v,datas:=(tx,(nums.length:Int))::s.datas,cons:=cl}:CS) hM.res.1 hwc hM.f4 op3 ln3 co3 nm3 tx3 k3 ka4 kc4 (.map (some vm)) m (Nat.lt_succ_self _) oM htx3 hkx3 (.inr ⟨vm,rfl,hM.res.2,hdm,hmv⟩) hM.f0).mono (λ_ _ ⟨x,f2,h1,h2,h3,h4⟩=>⟨x,f2,h1,h2,h3.mono (λ_ h=>h.elim),(hM.call0 h3).res,h4⟩) λ_ _ h=>h) (λ_=>DU.stab) (λ_=>⟨Ak.mono,tQ⟩) (λer w2 f2 he hE=>⟨rfl,er,f2,rfl,(by rw[GP,if_neg hnd0,hdv2];simp only;rw[hdc,Ms hop2 hcl (by rw[hty,IS he])]),hE⟩) ?_;rintro⟨q5,qa,qc⟩ ⟨hp5,hqb⟩;dsimp only at hp5 hqb ⊢;refine Aa 1 [] (λ_=>Au [0,2,3,4] rfl<|Ag rfl ?_ Aj);refine Aa 2 [] (λb16=>λ_=>Au [1,3,4,5] rfl<|Ag rfl ?_ Aj);refine Da 0 0 rfl rfl CM rfl rfl rfl rfl rfl rfl rfl rfl (λ_ _=>rfl) oM oM λra6 rc6=>Aa 1 [] (λ_=>Au [1,3,4,5] rfl<|A2 1 [] (λ_=>Ag rfl ?_ Aj));exact Aa 2 [2] (y<|λ_=>Au [1,3,4,5] rfl<|Bk<|Aa 6 [] (aI ⟨oM,oM⟩<|λ_=>CX ((i4+1,r4,dn.snoc q5,xs4++tC q5 qa qc,ra6,rc6)) (show r4.len<(Nd.cons op3 ln3 co3 tx3 nm3 k3 r4).len from Nat.lt_succ_self _) ⟨show i4+1+r4.len=_ by omega,show (dn.snoc _).len=i4+1 by rw[Ty.len_snoc,hdl2],hty.trans (Gv hp5),show (dn.snoc _).bnd from Ty.bnd_snoc hdb hqb,hrx3,show r4.size≤_ by omega⟩ lE (λw f hM=>⟨_,(hM.more (B':=[]) (F':=[λw f=>Be w f (dn.snoc q5) (xs4++tC q5 qa qc)]) nE (AE.mem ⟨Be.snoc hM.f0 hM.f4,tQ⟩) (Ax.mem ⟨Be.mono,tQ⟩)).less (sD (sD (sK (sK (sK (sK sZ)))))) sR nE (mR [3,0,6,7,8,9])⟩)));refine Ag rfl ?_ Aj
   refine D7 (I':=λ_=>DU 84 163 A ({s with vars:=v,datas:=(tx,(nums.length:Int))::s.datas,cons:=cl}:CS) vm m) (M:=λ_=>False) (α:=T1×Option Addr×Nat) (val:=λx=>tV x.1 x.2.1 x.2.2) (q:=λx=>CE ((tx,(nums.length:Int))::s.datas) m op3 ln3 co3 tx3 k3=.ok x.1∧x.1.bnd) (F':=λx=>[λw f=>Ak w f x.1.kids x.2.1 x.2.2]) (pe:=λer=>CE ((tx,(nums.length:Int))::s.datas) m op3 ln3 co3 tx3 k3=.error er) (T:=67) rfl rfl (eC Nz rfl rfl) (λ_ h=>h.elim) (λw f hM=>(Ks (k3.size+1) w f hM.vl A ({s with vars:=v,datas:=(tx,(nums.length:Int))::s.datas,cons:=cl}:CS) hM.res.1 hwc hM.f4 op3 ln3 co3 nm3 tx3 k3 ka4 kc4 (.map (some vm)) m (Nat.lt_succ_self _) oM htx3 hkx3 (.inr ⟨vm,rfl,hM.res.2,hdm,hmv⟩) hM.f0).mono (λ_ _ ⟨x,f2,h1,h2,h3,h4⟩=>⟨x,f2,h1,h2,h3.mono (λ_ h=>h.elim),(hM.call0 h3).res,h4⟩) λ_ _ h=>h) (λ_=>DU.stab) (λ_=>⟨Ak.mono,tQ⟩) (λer w2 f2 he hE=>⟨rfl,er,f2,rfl,(by rw[GP,if_neg hnd0,hdv2];simp only;rw[hdc,Ms hop2 hcl (by rw[hty,IS he])]),hE⟩) ?_;rintro⟨q5,qa,qc⟩ ⟨hp5,hqb⟩;dsimp only at hp5 hqb ⊢;refine Aa 1 [] (λ_=>Au [0,2,3,4] rfl<|Ag rfl ?_ ?_);refine Aa 2 [1] (y<|λ_=>Au [0,2,3,4] rfl<|Ag rfl ?_ Aj);refine Aa 2 [] (λb17=>λ_=>Au [1,3,4,5] rfl<|Ag rfl ?_ Aj);refine Da 0 0 rfl rfl CM rfl rfl rfl rfl rfl rfl rfl rfl (λ_ _=>rfl) oM oM λra6 rc6=>Aa 1 [] (λ_=>Au [1,3,4,5] rfl<|A2 1 [] (λ_=>Ag rfl ?_ Aj));exact Aa 2 [2] (y<|λ_=>Au [1,3,4,5] rfl<|Bk<|Aa 6 [] (aI ⟨oM,oM⟩<|λ_=>CX ((i4+1,r4,dn.snoc q5,xs4++tC q5 qa qc,ra6,rc6)) (show r4.len<(Nd.cons op3 ln3 co3 tx3 nm3 k3 r4).len from Nat.lt_succ_self _) ⟨show i4+1+r4.len=_ by omega,show (dn.snoc _).len=i4+1 by rw[Ty.len_snoc,hdl2],hty.trans (Gv hp5),show (dn.snoc _).bnd from Ty.bnd_snoc hdb hqb,hrx3,show r4.size≤_ by omega⟩ lE (λw f hM=>⟨_,(hM.more (B':=[]) (F':=[λw f=>Be w f (dn.snoc q5) (xs4++tC q5 qa qc)]) nE (AE.mem ⟨Be.snoc hM.f0 hM.f4,tQ⟩) (Ax.mem ⟨Be.mono,tQ⟩)).less (sD (sD (sK (sK (sK (sK sZ)))))) sR nE (mR [3,0,6,7,8,9])⟩)));refine Ag rfl ?_ Aj;refine Aa 2 [] (λb18=>λ_=>Au [1,3,4,5] rfl<|Ag rfl ?_ Aj);refine Aa 2 [2] (y<|λ_=>Au [1,3,4,5] rfl<|Ag rfl ?_ Aj);refine Da 0 0 rfl rfl CM rfl rfl rfl rfl rfl rfl rfl rfl (λ_ _=>rfl) oM oM λra6 rc6=>Aa 1 [] (λ_=>Au [1,3,4,5] rfl<|A2 1 [] (λ_=>Ag rfl ?_ Aj));exact Aa 2 [2] (y<|λ_=>Au [1,3,4,5] rfl<|Bk<|Aa 6 [] (aI ⟨oM,oM⟩<|λ_=>CX ((i4+1,r4,dn.snoc q5,xs4++tC q5 qa qc,ra6,rc6)) (show r4.len<(Nd.cons op3 ln3 co3 tx3 nm3 k3 r4).len from Nat.lt_succ_self _) ⟨show i4+1+r4.len=_ by omega,show (dn.snoc _).len=i4+1 by rw[Ty.len_snoc,hdl2],hty.trans (Gv hp5),show (dn.snoc _).bnd from Ty.bnd_snoc hdb hqb,hrx3,show r4.size≤_ by omega⟩ lE (λw f hM=>⟨_,(hM.more (B':=[]) (F':=[λw f=>Be w f (dn.snoc q5) (xs4++tC q5 qa qc)]) nE (AE.mem ⟨Be.snoc hM.f0 hM.f4,tQ⟩) (Ax.mem ⟨Be.mono,tQ⟩)).less (sD (sD (sK (sK (sK (sK sZ)))))) sR nE (mR [3,0,6,7,8,9])⟩)));refine Aa 3 [] (λ_=>ES<|Aa 2 [] (λ_=>?_));obtain rfl:r4=.nil:=Nd.len0 (by have:=of_decide_eq_false h5;omega)
   have hty2:FJ ((tx,(nums.length:Int))::s.datas) m k2=.ok dn:=by rw[hty];show (Except.ok (dn.app .nil):RI Ty)=_;rw[Ty.app_nil]
   have hdk:dn.len≤200000:=by have:i4+0=k2.len:=hi4;omega
   subst hdl2;refine NT (λw f=>Ak w f dn ra5 rc5) Ak.mono (λw f hM=>Hc hM hM.f1)<|K2 (λw=>AI w A.cb [pB A.sb,.map (some A.km),.map (some A.dm),.map (some A.rm),iV v] 84) (λw f h _=>h.1.blk) [0,1,2,3] Am (rd [0,1,2,3,4,5,6] (.br 7 .fin .fin)) rfl kR kR kR (λ_ _ _ _ _ h=>h)<|A2 3 [] (λ_=>Gn rfl rfl rfl (λw hK=>Ai rfl Og hK.2.2 rfl)<|A2 3 [1,0] (y<|y<|λ_=>Ag rfl ?_ Aj));exact sE (m:=⟨dn,.con tx self,nums⟩) (aa:=ra5) (ac:=rc5) (oa:=ra) (oc:=rc) (va:=na2) (vc:=nc2) (i1:=0) (i2:=5) (i3:=4) hA hvm hwc rfl rfl rfl rfl (by unfold ZV tC;simp only[T1.kids,hsl];rfl) OK FD hcl rfl rfl rfl<|Aa 1 [] (λ_=>AW [0,1,2,3] (λw f h _=>h.1.blk) rfl (λ_ h=>h)<|Bk<|Aa 6 [] (aI ⟨oM,oM⟩<|λ_=>CX ((j+1,r,(tx2,⟨dn,.con tx self,nums⟩)::cl)) (show r.len<(Nd.cons op2 ln2 co2 tx2 nm2 k2 r).len from Nat.lt_succ_self _) ⟨show j+1+r.len=_ by omega,hdc.trans (Tb hop2 hcl hty2),hwc.addCons hcl ⟨hdk,hdb,Dc oM oM hsb,by dsimp only;omega⟩,hrx2,show r.size≤_ by omega⟩ lE (λw f hM=>⟨_,hM.less (sD (sD (sK (sK sZ)))) sR nE (mR [6,4,5,3])⟩)))
  |some mk =>
   refine KP (α:=Option Addr×Nat×Option Addr×Nat×Option Addr×Nat) (λx=>Em es tx2=some (.agg (ZV mk x.1 x.2.1 x.2.2.1 x.2.2.2.1 x.2.2.2.2.1 x.2.2.2.2.2).toArray)) (λx=>[]) (λx=>[]) (λw f hM=>let ⟨aa,ac,oa,oc,va,vc,h1,_⟩:=(BT.look hM.res.2.2).2 mk hcl;⟨(aa,ac,oa,oc,va,vc),h1,nE,nE⟩) (λx _ h=>by cases h) ?_;rintro⟨aa,ac,oa,oc,va,vc⟩ hlk;refine K2 (λw=>AI w A.cb [pB A.sb,.map (some A.km),.map (some A.dm),.map (some A.rm),iV v] 84∧BE BI w A.km es) (λw f h _=>⟨h.1.1.blk,h.2.1⟩) [0,1,2] Am (rd [0,1,2,3,4,5,6,7,8,9] (.br 10 (.br 11 (.rd 12 .fin) .fin) .fin)) rfl kR kR kR (λ_ _ _ _ _ h=>h)<|A2 3 [] (λ_=>Gn rfl rfl rfl (λw hK=>Ai rfl Og hK.2.2.1 rfl)<|A2 2 [0] (y<|λ_=>Gn rfl rfl rfl (λw hK=>IJ (K:=BI) (a:=tx2) rfl rfl OK FD OX hK.2.2.2 hdis hlk)<|A2 3 [] (λ_=>Ag rfl ?_ Aj)));refine Aa 2 [] (λb19=>λ_=>AW [1,2,3] (λw f h _=>⟨h.1.1.blk,h.2.1⟩) rfl (λ_ h=>h)<|Ag rfl ?_ Aj);exact Aa 2 [0] (y<|λ_=>AW [1,2,3] (λw f h _=>⟨h.1.1.blk,h.2.1⟩) rfl (λ_ h=>h)<|A2 1 [] (λ_=>Bk<|Aa 7 [1] (y<|λ_=>Nw rfl rfl (eC Ek rfl rfl) (λ_ h=>h.elim) (λw f hM=>(Ci w f hM.vl false ln2 co2).mono (λ_ _ ⟨_,_,_,h,_⟩=>by cases h) λ_ _ h=>h) (λer w2 f2 he hE=>⟨rfl,er,f2,rfl,(by rw[GP,if_neg hnd0,hdv2];simp only;rw[hdc,P6 hop2 hcl,he.2]),hE⟩))))
  refine Aa 3 [] (λ_=>ES<|Aa 1 [] (λ_=>?_));obtain rfl:r=.nil:=Nd.len0 (by have:=of_decide_eq_false h3;omega);have hdc2:D2 ((tx,(nums.length:Int))::s.datas) m (.con tx self) nums kids s.cons=.ok cl:=hdc;exact dQ (λw f hM=>D1 rfl) (λw f hM=>⟨({s with vars:=v,datas:=(tx,(nums.length:Int))::s.datas,cons:=cl}:CS),f,rfl,⟨(by rw[GP,if_neg hnd0,hdv2];simp only;rw[hdc2]),hwc,rfl,by dsimp only;omega,hv2⟩,hM.exm,hM.res.1,tQ⟩)
 |some cnt =>
  refine K2 (λw=>AI w A.cb [pB A.sb,.map (some A.km),.map (some A.dm),.map (some A.rm),iV s.vars] 84∧BE BI w A.dm (s.datas.map λp=>(p.1,iV p.2))) (λw f h _=>⟨h.blk,h.datas⟩) [0] Am (rd [0,1,2,3,4,5,6,7,8,9,10,11] .fin) rfl kR kR kR (λ_ _ _ _ _ h=>h)<|A2 3 [] (λ_=>Gn rfl rfl rfl (λw hK=>Ai rfl Qt hK.2.2.1 rfl)<|A2 2 [0] (y<|λ_=>Gn rfl rfl rfl (λw hK=>IJ (K:=BI) (a:=tx) (v:=iV cnt) rfl rfl QP FD bO hK.2.2.2 hw.dd (by rw[Eg (λc=>Value.int .i64 c),hdl];rfl))<|A2 5 [] (λ_=>Bk<|Aa 2 [] (λ_=>C3 [0] Am (rd [0,1,2,3,4,5,6,10,11] (.br 7 (.rd 8 (.rd 9 (.br 12 .fin .fin))) .fin)) rfl kR<|A2 9 [0] (y<|λ_=>?_)))));refine Ag rfl ?_ Aj;refine Aa 2 [] (λ_=>Au [0] rfl<|A2 2 [] (λ_=>Ag rfl ?_ Aj));exact Nw rfl rfl (eC Ek rfl rfl) (λ_ h=>h.elim) (λw f hM=>(Ci w f hM.vl false ln co).mono (λ_ _ ⟨_,_,_,h,_⟩=>by cases h) λ_ _ h=>h) (λer w2 f2 he hE=>⟨rfl,er,f2,rfl,(by rw[GP,if_pos (by rw[hdl];rfl),he.2]),hE⟩)
theorem Z6(w:World)(f:Fq)(hv:Vl w f)(hG:ET w f)(ob:Nat)(oa:Option Addr)(oc n0:Nat)(oxs:List Value)(l:List QT)(hP:DG 121 124 ob (.slice oa n0 oc) oa oc n0 oxs w f)(hL:CI w f l oxs)(hf:∀b,M1 ob oa b→f b=0)(hn0:n0≤1000)(nms:lU)(fs:List lU)(hfs:Lib.fields nms=fs)(hns:nms.length≤1000)(hasc:nms.all (λc=>decide (c.toNat<128))=true)(hfl:fs.length≤1000)(k:Ty)(ka:Option Addr)(kc:Nat)(hk0:0<k.len)(hkl:k.len≤1000)(hkb:k.bnd)(hT:Ak w f k ka kc) :
  Bo prog 81 #[S nms,.slice ka k.len kc,pB ob] w (JG (α:=Option Addr×Nat×List Value) (λ_=>.tuple #[]) (λ_=>True) (M1 ob oa) (λx=>M1 ob x.1) (λx=>DG 121 124 ob (.slice x.1 (n0+fs.length) x.2.1) x.1 x.2.1 (n0+fs.length) x.2.2) (λx=>[λw f=>CI w f (l++fs.map (λnm=>(nm,(k.len:Int)-1,Hj k))) x.2.2]) w f):=by
 refine Ch (X:=⟨M1 ob oa,M1 ob oa,DG 121 124 ob (.slice oa n0 oc) oa oc n0 oxs,w,f⟩) (H:=[]) (R:=[]) (B:=[]) (Fs:=[λw f=>ET w f,λw f=>Ak w f k ka kc,λw f=>CI w f l oxs]) (f:=f) func81 rfl rfl rfl (Rx (M:=M1 ob oa) hv hP DG.stab (λb hb=>⟨hP.lt hb,hf b hb⟩) ⟨hG,hT,hL,tQ⟩ ⟨ET.mono,Ak.mono,CI.mono,tQ⟩)<|Aa 3 [] (λ_=>Br rfl rfl (eC iR rfl rfl) (λw f hM=>RJ w f hM.vl hM.f0 nms oM hasc) (λx=>⟨Zz.mono,tQ⟩) ?_);rintro⟨sa,sc⟩ -;rw[hfs];refine Aa 5 [] (λ_=>?_);refine Fp (α:=Nat×Option Addr×Nat×List Value) (λx=>fs.length-x.1) (λx=>x.1≤fs.length) (λx=>(E5 1 (.slice ka k.len kc) 2 (pB ob) 8 (.slice sa fs.length sc) 9 (iV (fs.length:Int)) 10 (iV (x.1:Int)))) (λx=>⟨M1 ob oa,M1 ob x.2.1,DG 121 124 ob (.slice x.2.1 (n0+x.1) x.2.2.1) x.2.1 x.2.2.1 (n0+x.1) x.2.2.2,w,f⟩) (λx=>[]) (λx=>[]) (λx=>[]) (λx=>[λw f=>Zz w f fs sa sc,λw f=>Ak w f k ka kc,λw f=>CI w f (l++(fs.take x.1).map (λnm=>(nm,(k.len:Int)-1,Hj k))) x.2.2.2]) (0,oa,oc,oxs) (Nat.zero_le _) lE (λw f hM=>(by have hM9:=hM.more (B':=[]) (F':=[λw f=>CI w f (l++(fs.take 0).map (λnm=>(nm,(k.len:Int)-1,Hj k))) oxs]) nE (AE.mem ⟨by simpa using hM.f3,tQ⟩) (Ax.mem ⟨CI.mono,tQ⟩);exact hM9.less sR sR nE (mR [1,3,0]))) ?_;rintro⟨i,oa2,oc2,xs⟩ hi;dsimp only at hi ⊢;refine Aa 6 [] (λ_=>AJ 11 rfl rfl (λh1=>?_) (λh1=>?_));refine Aa 6 [] (λ_=>?_);have hil:i<fs.length:=by have:=of_decide_eq_true h1;omega
 obtain⟨nm,hx⟩:∃v,fs[i]?=some v:=⟨_,List.getElem?_eq_getElem hil⟩;refine KP (α:=Nat) (λx=>sa=some ⟨x,0,none⟩) (λx=>[⟨x,0+i*1,[S nm]⟩]) (λx=>[]) (λw f hM=>let ⟨_,b,h1,h2⟩:=hM.f0;⟨b,h1,(λe he=>by cases he with|head=>(rw[Nat.mul_one];exact Cs.at h2 (by rw[List.getElem?_map,hx];rfl))|tail _ h=>cases h),λ_ h=>by cases h⟩) (λx=>Ax.mem tQ) ?_;rintro sb rfl;refine Aa 6 [100,0] (aI oM<|y2<|λ_=>C3 [] Am (rd [1,2,3,4,5] (.br 0 (.br 6 (.rd 7 (.br 8 (.br 9 (.br 10 .fin .fin) .fin) .fin)) .fin) (.br 6 (.rd 7 (.br 0 (.br 8 (.br 9 (.br 10 .fin .fin) .fin) .fin) (.br 8 (.br 0 (.br 9 (.br 10 .fin .fin) .fin) .fin) .fin))) .fin))) rfl kR<|A2 5 [] (aI ⟨oM,oM⟩<|λ_=>Ag rfl ?_ ?_));refine CW rfl rfl (λw f hM=>Ai rfl JN hM.res.blk rfl)<|Aa 1 [] (λ_=>Au [] rfl<|Ag rfl ?_ Aj);refine Br rfl rfl (eC P8 rfl rfl) (λw f hM=>LX w f hM.vl k ka kc hk0 oM hkb hM.f1) (λx=>⟨Ak.mono,tQ⟩) ?_;rintro⟨ta,tc⟩ -;refine Aa 1 [] (λ_=>Au [] rfl<|A2 1 [] (λ_=>Ag rfl ?_ Aj));refine Aa 2 [] (λb1=>λ_=>Au [] rfl<|Ag rfl ?_ Aj);refine MA (MI':=M1 ob) (I':=λa' c'=>DG 121 124 ob (.slice oa2 (n0+i) oc2) a' c' (n0+i+1) (xs++pC (nm,(k.len:Int)-1,Hj k) ta tc)) 0 rfl rfl Tw rfl rfl rfl rfl rfl rfl rfl oM oM (λw f h=>h.row) (λb h=>.inr h) (λ_ _ h=>M1.or h) (λw f w2 a2 c2 h hM hr hG=>h.app hr hG) (λ_ _=>DG.stab) λa2 c2=>Aa 1 [] (λ_=>Au [] rfl<|Ag rfl ?_ Aj);exact SZ (b:=ob) (I':=DG 121 124 ob (.slice a2 (n0+i+1) c2) a2 c2 (n0+i+1) (xs++pC (nm,(k.len:Int)-1,Hj k) ta tc)) rfl rfl rfl rfl JN rfl rfl rfl (.inl rfl) (λw f h=>h.blk) (λw f w2 h hM hC hb=>h.store hC hb) DG.stab<|Aa 1 [] (λ_=>Au [] rfl<|Bk<|Aa 6 [] (aI ⟨oM,oM⟩<|λ_=>CX ((i+1,a2,c2,xs++pC (nm,(k.len:Int)-1,Hj k) ta tc)) (show fs.length-(i+1)<fs.length-i by omega) (show i+1≤_ by omega) lE (λw f hM=>⟨_,(hM.more (B':=[]) (F':=[λw f=>CI w f (l++(fs.take (i+1)).map (λnm=>(nm,(k.len:Int)-1,Hj k))) (xs++pC (nm,(k.len:Int)-1,Hj k) ta tc)]) nE (AE.mem ⟨by rw[Cy hx,List.map_append,← List.append_assoc];exact CI.snoc (p:=(nm,(k.len:Int)-1,Hj k)) hM.f0 hM.f3,tQ⟩) (Ax.mem ⟨CI.mono,tQ⟩)).less (sD sZ) sR nE (mR [2,3,0])⟩)));refine Ag rfl ?_ Aj;refine Br rfl rfl (eC P8 rfl rfl) (λw f hM=>LX w f hM.vl k ka kc hk0 oM hkb hM.f1) (λx=>⟨Ak.mono,tQ⟩) ?_;rintro⟨ta,tc⟩ -;refine Aa 1 [] (λ_=>Au [] rfl<|A2 1 [] (λ_=>Ag rfl ?_ ?_));refine CW rfl rfl (λw f hM=>Ai rfl JN hM.res.blk rfl)<|Aa 1 [] (λ_=>Au [] rfl<|Ag rfl ?_ Aj);refine Aa 2 [] (λb2=>λ_=>Au [] rfl<|Ag rfl ?_ Aj);refine MA (MI':=M1 ob) (I':=λa' c'=>DG 121 124 ob (.slice oa2 (n0+i) oc2) a' c' (n0+i+1) (xs++pC (nm,(k.len:Int)-1,Hj k) ta tc)) 0 rfl rfl Tw rfl rfl rfl rfl rfl rfl rfl oM oM (λw f h=>h.row) (λb h=>.inr h) (λ_ _ h=>M1.or h) (λw f w2 a2 c2 h hM hr hG=>h.app hr hG) (λ_ _=>DG.stab) λa2 c2=>Aa 1 [] (λ_=>Au [] rfl<|Ag rfl ?_ Aj)
 exact SZ (b:=ob) (I':=DG 121 124 ob (.slice a2 (n0+i+1) c2) a2 c2 (n0+i+1) (xs++pC (nm,(k.len:Int)-1,Hj k) ta tc)) rfl rfl rfl rfl JN rfl rfl rfl (.inl rfl) (λw f h=>h.blk) (λw f w2 h hM hC hb=>h.store hC hb) DG.stab<|Aa 1 [] (λ_=>Au [] rfl<|Bk<|Aa 6 [] (aI ⟨oM,oM⟩<|λ_=>CX ((i+1,a2,c2,xs++pC (nm,(k.len:Int)-1,Hj k) ta tc)) (show fs.length-(i+1)<fs.length-i by omega) (show i+1≤_ by omega) lE (λw f hM=>⟨_,(hM.more (B':=[]) (F':=[λw f=>CI w f (l++(fs.take (i+1)).map (λnm=>(nm,(k.len:Int)-1,Hj k))) (xs++pC (nm,(k.len:Int)-1,Hj k) ta tc)]) nE (AE.mem ⟨by rw[Cy hx,List.map_append,← List.append_assoc];exact CI.snoc (p:=(nm,(k.len:Int)-1,Hj k)) hM.f0 hM.f3,tQ⟩) (Ax.mem ⟨CI.mono,tQ⟩)).less (sD sZ) sR nE (mR [2,3,0])⟩)));refine Ag rfl ?_ Aj;refine Aa 2 [] (λb3=>λ_=>Au [] rfl<|Ag rfl ?_ Aj);refine CW rfl rfl (λw f hM=>Ai rfl JN hM.res.blk rfl)<|Aa 1 [] (λ_=>Au [] rfl<|Ag rfl ?_ Aj);refine MA (MI':=M1 ob) (I':=λa' c'=>DG 121 124 ob (.slice oa2 (n0+i) oc2) a' c' (n0+i+1) (xs++pC (nm,(k.len:Int)-1,Hj k) ta tc)) 0 rfl rfl Tw rfl rfl rfl rfl rfl rfl rfl oM oM (λw f h=>h.row) (λb h=>.inr h) (λ_ _ h=>M1.or h) (λw f w2 a2 c2 h hM hr hG=>h.app hr hG) (λ_ _=>DG.stab) λa2 c2=>Aa 1 [] (λ_=>Au [] rfl<|Ag rfl ?_ Aj);exact SZ (b:=ob) (I':=DG 121 124 ob (.slice a2 (n0+i+1) c2) a2 c2 (n0+i+1) (xs++pC (nm,(k.len:Int)-1,Hj k) ta tc)) rfl rfl rfl rfl JN rfl rfl rfl (.inl rfl) (λw f h=>h.blk) (λw f w2 h hM hC hb=>h.store hC hb) DG.stab<|Aa 1 [] (λ_=>Au [] rfl<|Bk<|Aa 6 [] (aI ⟨oM,oM⟩<|λ_=>CX ((i+1,a2,c2,xs++pC (nm,(k.len:Int)-1,Hj k) ta tc)) (show fs.length-(i+1)<fs.length-i by omega) (show i+1≤_ by omega) lE (λw f hM=>⟨_,(hM.more (B':=[]) (F':=[λw f=>CI w f (l++(fs.take (i+1)).map (λnm=>(nm,(k.len:Int)-1,Hj k))) (xs++pC (nm,(k.len:Int)-1,Hj k) ta tc)]) nE (AE.mem ⟨by rw[Cy hx,List.map_append,← List.append_assoc];exact CI.snoc (p:=(nm,(k.len:Int)-1,Hj k)) hM.f0 hM.f3,tQ⟩) (Ax.mem ⟨CI.mono,tQ⟩)).less (sD sZ) sR nE (mR [2,3,0])⟩)));refine Aa 3 [] (λ_=>ES<|Aa 1 [] (λ_=>?_));obtain rfl:i=fs.length:=by have:=of_decide_eq_false h1;omega
 exact dQ (λw f hM=>D1 rfl) (λw f hM=>⟨(oa2,oc2,xs),f,rfl,tQ,hM.exm,(λb hb=>let ⟨h1,h2,h3⟩:=hM.mi b hb;h3.elim (λh=>.inr ⟨h,h1,h2⟩) .inl),hM.res,⟨by have h9:=hM.f2;rw[List.take_length] at h9;exact h9,tQ⟩⟩)
def Pz:List Value:=[S [70,97,108,115,101],S [98,111,111,108],iV 0,iV 0,S [84,114,117,101],S [98,111,111,108],iV 1,iV 0,S [68,105,118],S [101,120,110],iV 0,iV 0,S [77,97,116,99,104],S [101,120,110],iV 1,iV 0,S [65,98,111,114,116],S [101,120,110],iV 2,iV 0,S [75,101,101,112],S [101,120,110],iV 3,iV 0,S [79,117,116],S [101,120,110],iV 4,iV 0,S [70,97,105,108],S [101,120,110],iV 5,iV 1]
theorem S6(w:World)(f:Fq)(hv:Vl w f)  :
  Bo prog 53 #[.slice none 0 0] w (Bw (α:=Nat) (λb=>.slice (some ⟨b,0,none⟩) 8 8) (λ_=>True) (λb=>[λw f=>Cs w f b 0 Pz]) w f):=by
 refine Ch (X:=X0 w f) (H:=[]) (R:=[]) (B:=[]) (Fs:=[]) (f:=f) func53 rfl rfl rfl (BR hv tQ tQ)<|Aa 28 [] (λb1=>λ_=>?_);refine Fp (α:=Unit) (λx=>0) (λx=>True) (λx=>(E3 3 (.slice (some ⟨b1,0,none⟩) 8 8) 19 (iV ((0:Nat):Int)) 20 (iV 0))) (λx=>X0 w f) (λx=>[⟨b1,Pz,118,true⟩]) (λx=>[]) (λx=>[]) (λx=>[]) (()) tQ lE (λw f hM=>hM) ?_;rintro⟨⟩ -;exact Aa 9 [] (λ_=>ES<|Aa 9 [] (λ_=>CG 0 rfl rfl<|AL (C4 rfl rfl) (λw f hM=>⟨b1,f,rfl,tQ,hM.exm,⟨hM.b0,tQ⟩⟩)))
abbrev tM:=Nat×Nat×Nat×Nat×(Option Addr×Nat)×(Option Addr×Nat)
abbrev Q3:=T1×Option Addr×Nat
abbrev qI:Q3:=(c0 bI,none,0)
abbrev qF:Q3:=(c0 bF,none,0)
abbrev qS:Q3:=(c0 bS,none,0)
abbrev qB:Q3:=(c0 bB,none,0)
abbrev qU:Q3:=(c0 bU,none,0)
abbrev qV:Q3:=(.var 1,none,0)
abbrev qR(a:Option Addr)(c:Nat):Q3:=(T1.con I0 (T1.var 1).one,a,c)
abbrev qP(a:Option Addr)(c:Nat):Q3:=(T1.con CU (T1.var 1).one,a,c)
def pm(x:lU)(l:List Q3):QT:=(x,((Sp l).len:Int)-1,Hj (Sp l))
theorem kI:(c0 bI).bnd:=CH dC
theorem kF:(c0 bF).bnd:=CH dC
theorem kS:(c0 bS).bnd:=CH dC
theorem kB:(c0 bB).bnd:=CH dC
theorem kU:(c0 bU).bnd:=CH dC
theorem kV:(T1.var 1).bnd:=Bv _
variable {Q:AU}{σ:Bb}{f:Fq}{ds:List Deferred}{B:List FB}{fs:List Fr}{H H':List HB}{xs:List Value}{b d n n0 ob oc:Nat}{M:Nat→Prop}{g:Option (Nat×Bool)}{oa:Option Addr}{T:TypeId}{w w0:World}
theorem qN:Ak w f .nil none 0:=Ak.nil _ _ _ _
def TW:List Nat→Nat→Bool
 | [],_=>false
 |a::l,b=>bif Nat.beq a b then true else TW l b
def sU(c:Bool)(d:Nat)(v:Value)(σ:Bb):Bb:=bif c then AA σ d v else σ
def sL{α:Type}(c:Bool)(e:α)(l:List α):List α:=bif c then e::l else l
def KK(b1 b2 b3 b4 b5 b6:Nat)(S:List Nat)(x:tM):Bb :=
 sU (TW S 7) 8 (pB x.2.2.2.1)<|sU (TW S 6) 7 (pB x.2.2.1)<|sU (TW S 5) 22 (tV (T1.con CU (T1.var 1).one) x.2.2.2.2.2.1 x.2.2.2.2.2.2)<|sU (TW S 2) 19 (tV (T1.con I0 (T1.var 1).one) x.2.2.2.2.1.1 x.2.2.2.2.1.2) <|
 sU (TW S 4) 21 (.slice (some ⟨x.2.1,0,none⟩) 1 1)<|sU (TW S 1) 18 (.slice (some ⟨x.1,0,none⟩) 1 1)<|E8 1 (pB b1) 2 (pB b2) 3 (pB b3) 4 (pB b4) 5 (pB b5) 6 (pB b6) 17 (tV (.var 1) none 0) 20 (tV (.var 1) none 0)
def D4(b1 b2 b3 b4 b5 b6:Nat)(S:List Nat)(x:tM):List HB :=
 sL (TW S 7) ⟨x.2.2.2.1,zT,76,true⟩<|sL (TW S 6) ⟨x.2.2.1,zT,76,true⟩<|sL (TW S 4&&!TW S 5) ⟨x.2.1,tC (.var 1) none 0,76,true⟩<|sL (TW S 1&&!TW S 2) ⟨x.1,tC (.var 1) none 0,76,true⟩ [⟨b6,tC (.var 1) none 0,76,true⟩,⟨b5,tC (c0 bU) none 0,76,true⟩,⟨b4,tC (c0 bB) none 0,76,true⟩,⟨b3,tC (c0 bS) none 0,76,true⟩,⟨b2,tC (c0 bF) none 0,76,true⟩,⟨b1,tC (c0 bI) none 0,76,true⟩]
def f16(S:List Nat)(x:tM):List (World→Fq→Prop) :=
 sL (TW S 5) (λw f=>Ak w f (T1.var 1).one x.2.2.2.2.2.1 x.2.2.2.2.2.2)<|sL (TW S 2) (λw f=>Ak w f (T1.var 1).one x.2.2.2.2.1.1 x.2.2.2.2.1.2) [λw f=>ET w f]
def Cd:List QT:=[pm [43] [qI,qI,qI],pm [45] [qI,qI,qI],pm [42] [qI,qI,qI],pm [100,105,118] [qI,qI,qI],pm [109,111,100] [qI,qI,qI],pm [110,101,103] [qI,qI],pm [60] [qI,qI,qB],pm [60,61] [qI,qI,qB],pm [61] [qI,qI,qB],pm [102,43] [qF,qF,qF],pm [102,45] [qF,qF,qF],pm [102,42] [qF,qF,qF],pm [102,47] [qF,qF,qF],pm [102,115,113,114,116] [qF,qF],pm [102,110,101,103] [qF,qF],pm [102,60] [qF,qF,qB],pm [102,61] [qF,qF,qB],pm [102,97,104,101,97,100] [qF,qF,qB],pm [105,116,111,102] [qI,qF],pm [102,116,111,105] [qF,qI],pm [102,98,105,116,115] [qF,qS],pm [110,97,110] [qF],pm [105,110,102] [qF],pm [99,97,116] [qS,qS,qS],pm [108,101,110] [qS,qI],pm [111,114,100] [qS,qI],pm [97,116,111,105] [qS,qI],pm [115,117,98] [qS,qI,qI,qS],pm [115,61] [qS,qS,qB],pm [115,60] [qS,qS,qB],pm [105,116,111,97] [qI,qS],pm [99,104,114] [qI,qS],pm [112,114,105,110,116] [qS,qU],pm [114,101,97,100] [qU,qS],pm [114,101,102] [qV,(qR none 0)],pm [103,101,116] [(qR none 0),qV],pm [115,101,116] [(qR none 0),qV,qU],pm [110,101,119] [qV,(qP none 0)],pm [108,111,97,100] [(qP none 0),qV],pm [115,116,111,114,101] [(qP none 0),qV,qU]]
def XY:List (T1×Option Addr×Nat)→Prop
 | []=>True
 |t::l=>t.1.bnd∧XY l
theorem Pd:∀{l:List (T1×Option Addr×Nat)},XY l→(Sp l).bnd
 | [],_=>trivial
 |_::_,h=>T1.bnd_cons.2 ⟨h.1,Pd h.2⟩
theorem G8{f0:Fq}{F0:List (World→Fq→Prop)}{all r:List Oper}{gg:Operand}{args:List Operand}{ts:Array TypeId}{ty:TypeId}{pos:String}{af:Array Edge}{NM:lU}(kb n1:Nat)(lst:List Q3)
  (hgv:ev σ gg=some (.func (.func 81) #[] [Value.pointer (some ⟨ob,0,none⟩)].toArray)) (hga:Ik σ args=some [S NM,.slice (some ⟨b,0,none⟩) lst.length lst.length]) (hg:gd all σ g=some true) (hd:Nat.blt d n=true) (hk:Hg H kb=some ⟨b,nX lst,T,true⟩) (hs:Kh H kb=some H')
  (hG:∀w f H B,AO ⟨M,M1 ob oa,DG 121 124 ob (.slice oa n0 oc) oa oc n0 xs,w0,f0⟩ w f H [] B ((λw f=>CI w f (Cd.take n0) xs)::F0)→ET w f∧sY w f lst) (hbd:XY lst)
  (h:∀a c xs,A3 prog n Q ds ⟨M,M1 ob a,DG 121 124 ob (.slice a n1 c) a c n1 xs,w0,f0⟩ [] B ((λw f=>CI w f (Cd.take n1) xs)::F0) (.ops all r) fs (AA σ d (.tuple #[])) H')
  (hp:Cd.take n0++(Lib.fields NM).map (λnm=>(nm,((Sp lst).len:Int)-1,Hj (Sp lst)))=Cd.take n1:=by kernel_rfl) (hn:n0+(Lib.fields NM).length=n1:=by kernel_rfl)
  (hc:(Nat.ble n0 1000&&(Nat.ble NM.length 1000&&(NM.all (λc=>decide (c.toNat<128))&&(Nat.ble (Lib.fields NM).length 1000&&(Nat.blt 0 lst.length&&Nat.ble lst.length 1000)))))=true:=by kernel_rfl) :
  A3 prog n Q ds ⟨M,M1 ob oa,DG 121 124 ob (.slice oa n0 oc) oa oc n0 xs,w0,f0⟩ [] B ((λw f=>CI w f (Cd.take n0) xs)::F0) (.ops all (⟨some d,.call {callee:=.value gg,args:=args.toArray,argTypes:=ts},ty,pos,af,g⟩::r)) fs σ H:=by
 simp only[Bool.and_eq_true] at hc;obtain⟨h1,h2,h3,h4,h5,h6⟩:=hc;have e:=PV lst;have h5':0<(Sp lst).len:=by rw[e];exact Nat.le_of_ble_eq_true h5
 have h6':(Sp lst).len≤1000:=by rw[e];exact Nat.le_of_ble_eq_true h6
 subst hn;have he':∀w,SW.Enters prog σ (.call {callee:=.value gg,args:=args.toArray,argTypes:=ts}) ty w 81 #[S NM,.slice (some ⟨b,0,none⟩) (Sp lst).len lst.length,pB ob]:=by rw[e];exact λ_=>PH jA hgv hga
 refine CG kb hk hs<|Dl (λw f=>Ak w f (Sp lst) (some ⟨b,0,none⟩) lst.length) (λw f hM=>CQ (hG w f _ _ hM).2 hM.b0) Ak.mono<|Ud (XX:=λ_ _=>False) hg hd he' (λw f hM=>(Z6 w f hM.vl (hG w f _ _ (hM.less sR sR (λ_ h=>h) (λ_ h=>.tail _ h))).1 ob oa oc n0 xs (Cd.take n0) hM.res hM.f1 hM.mz (Nat.le_of_ble_eq_true h1) NM (Lib.fields NM) rfl (Nat.le_of_ble_eq_true h2) h3 (Nat.le_of_ble_eq_true h4) (Sp lst) (some ⟨b,0,none⟩) lst.length h5' h6' (Pd hbd) hM.f0).retP) (λ_=>DG.stab) (λ_=>⟨CI.mono,tQ⟩) (λ_ _ _ _ _ h=>h.elim) ?_;rintro⟨a,c,xs'⟩ -;refine λw f hM=>h a c xs' w f ?_;rw[← hp];refine hM.less sR sR (λe he=>.tail _ he) (λφ hφ=>?_);rcases List.mem_cons.1 hφ with rfl|hφ
 · exact .head _
 · exact .tail _ (.tail _ (.tail _ hφ))
def Rh:OT:=.br 9 .fin .fin
def HW:OT:=.br 8 Rh .fin
def H6:OT:=.br 5 HW .fin
def IK:OT:=.br 2 H6 .fin
def LZ:OT:=.br 1 IK .fin
def KH:OT:=.br 4 H6 .fin
def LS:OT:=.br 2 KH (.br 4 IK .fin)
def S1:OT:=.br 1 LS (.br 4 LZ .fin)
def Lq:OT:=.br 6 HW .fin
def K3:OT:=.br 5 Lq (.br 6 H6 .fin)
def LK:OT:=.br 2 K3 (.br 6 IK .fin)
def SD:OT:=.br 1 LK (.br 6 LZ .fin)
def PG:OT:=.br 4 K3 (.br 6 KH .fin)
def Ul:OT:=.br 2 PG (.br 4 LK (.br 6 LS .fin))
def eU:OT:=.br 1 Ul (.br 4 SD (.br 6 S1 .fin))
def KL:OT:=.br 7 HW .fin
def Kz:OT:=.br 5 KL (.br 7 H6 .fin)
def LY:OT:=.br 2 Kz (.br 7 IK .fin)
def SM:OT:=.br 1 LY (.br 7 LZ .fin)
def Qc:OT:=.br 4 Kz (.br 7 KH .fin)
def Ug:OT:=.br 2 Qc (.br 4 LY (.br 7 LS .fin))
def eO:OT:=.br 1 Ug (.br 4 SM (.br 7 S1 .fin))
def QQ:OT:=.br 6 KL (.br 7 Lq .fin)
def Pn:OT:=.br 5 QQ (.br 6 Kz (.br 7 K3 .fin))
def SY:OT:=.br 2 Pn (.br 6 LY (.br 7 LK .fin))
def eJ:OT:=.br 1 SY (.br 6 SM (.br 7 SD .fin))
def Xh:OT:=.br 4 Pn (.br 6 Qc (.br 7 PG .fin))
def gD:OT:=.br 2 Xh (.br 4 SY (.br 6 Ug (.br 7 Ul .fin)))
def pG:OT:=.br 1 gD (.br 4 eJ (.br 6 eO (.br 7 eU .fin)))
set_option maxHeartbeats 2000000 in
theorem Uc(w:World)(f:Fq)(hv:Vl w f)(hG:ET w f) :
  Bo prog 54 #[] w (Bw (α:=Option Addr×Nat) (λx=>.slice x.1 Cd.length x.2) (λ_=>True) (λx=>[λw f=>Tr w f Cd x.1 x.2]) w f):=by
 refine Ch (X:=X0 w f) (H:=[]) (R:=[]) (B:=[]) (Fs:=[λw f=>ET w f]) (f:=f) func54 rfl rfl rfl (BR hv ⟨hG,tQ⟩ ⟨ET.mono,tQ⟩)<|Aa 7 [] (λ_=>Br rfl rfl (eC Bt rfl rfl) (λw f hM=>Bl w f hM.vl [105,110,116]) (λx=>trivial) ?_);rintro⟨⟩ -;refine Br rfl rfl (eC Bt rfl rfl) (λw f hM=>Bl w f hM.vl [102,108,111,97,116]) (λx=>trivial) ?_;rintro⟨⟩ -;refine Br rfl rfl (eC Bt rfl rfl) (λw f hM=>Bl w f hM.vl [115,116,114,105,110,103]) (λx=>trivial) ?_;rintro⟨⟩ -;refine Br rfl rfl (eC Bt rfl rfl) (λw f hM=>Bl w f hM.vl [98,111,111,108]) (λx=>trivial) ?_;rintro⟨⟩ -;refine Br rfl rfl (eC Bt rfl rfl) (λw f hM=>Bl w f hM.vl [117,110,105,116]) (λx=>trivial) ?_;rintro⟨⟩ -;refine Aa 14 [4,3,2,1,0] (λb1=>λb2=>λb3=>λb4=>λb5=>y<|y<|y<|y<|y<|λ_=>Br rfl rfl (eC G1 rfl rfl) (λw f hM=>DB w f hM.vl 1) (λx=>trivial) ?_);rintro⟨⟩ -;refine Aa 5 [0] (λb6=>y<|λ_=>?_);refine Nh (α:=Nat×Nat×(Option Addr×Nat)×(Option Addr×Nat)) (λx=>True) (λx=>(E8 1 (pB b1) 2 (pB b2) 3 (pB b3) 4 (pB b4) 5 (pB b5) 6 (pB b6) 7 (pB x.1) 8 (pB x.2.1))) (λx=>X0 w f) (λx=>[⟨x.2.1,tC (T1.con CU (T1.var 1).one) x.2.2.2.1 x.2.2.2.2,76,true⟩,⟨x.1,tC (T1.con I0 (T1.var 1).one) x.2.2.1.1 x.2.2.1.2,76,true⟩,⟨b6,tC (.var 1) none 0,76,true⟩,⟨b5,tC (c0 bU) none 0,76,true⟩,⟨b4,tC (c0 bB) none 0,76,true⟩,⟨b3,tC (c0 bS) none 0,76,true⟩,⟨b2,tC (c0 bF) none 0,76,true⟩,⟨b1,tC (c0 bI) none 0,76,true⟩]) (λx=>[]) (λx=>[]) (λx=>[λw f=>Ak w f (T1.var 1).one x.2.2.2.1 x.2.2.2.2,λw f=>Ak w f (T1.var 1).one x.2.2.1.1 x.2.2.1.2,λw f=>ET w f]) ?_ ?_;refine C3 [0,1,2,3,4,5] Am (.rd 0 (.rd 3 pG)) rfl kR<|A2 2 [0,0] (y<|y<|λ_=>KJ HW (KK b1 b2 b3 b4 b5 b6 [1,2,4,5,6,7]) (D4 b1 b2 b3 b4 b5 b6 [1,2,4,5,6,7]) (λ_=>[]) (f16 [1,2,4,5,6,7]) ?_ (λhS124567=>?_))
 ·
  rintro⟨b18,b21,b7,b8,⟨ra,rc⟩,⟨pa,pc⟩⟩;refine Ag rfl ?_ Aj;refine Aa 2 [1] (y<|λ_=>Au [2,3,4,5,6,7] rfl<|Ag rfl ?_ Aj);exact Aa 2 [0] (y<|λ_=>Au [2,3,4,5,6,7] rfl<|Bk<|HG (b7,b8,(ra,rc),(pa,pc)) tQ lE (λw f hM=>⟨f,hM⟩))
 refine KJ Lq (KK b1 b2 b3 b4 b5 b6 [1,2,4,5,7]) (D4 b1 b2 b3 b4 b5 b6 [1,2,4,5,7]) (λ_=>[]) (f16 [1,2,4,5,7]) ?_ (λhS12457=>?_)
 ·
  rintro⟨b18,b21,b7,b8,⟨ra,rc⟩,⟨pa,pc⟩⟩;refine Ag rfl ?_ Aj;exact Aa 2 [] (λq=>λ_=>Au [2,3,4,5,6,7] rfl<|EC hS124567 (b18,b21,q,b8,(ra,rc),(pa,pc)) lE (λw f hM=>hM.perm (List.perm_middle (l₁:=[_]))))
 refine KJ KL (KK b1 b2 b3 b4 b5 b6 [1,2,4,5,6]) (D4 b1 b2 b3 b4 b5 b6 [1,2,4,5,6]) (λ_=>[]) (f16 [1,2,4,5,6]) ?_ (λhS12456=>?_)
 ·
  rintro⟨b18,b21,b7,b8,⟨ra,rc⟩,⟨pa,pc⟩⟩;refine Ag rfl ?_ Aj;exact Aa 2 [] (λq=>λ_=>Au [2,3,4,5,6,7] rfl<|EC hS124567 (b18,b21,b7,q,(ra,rc),(pa,pc)) lE (λw f hM=>hM))
 refine KJ H6 (KK b1 b2 b3 b4 b5 b6 [1,2,4,6,7]) (D4 b1 b2 b3 b4 b5 b6 [1,2,4,6,7]) (λ_=>[]) (f16 [1,2,4,6,7]) ?_ (λhS12467=>?_)
 ·
  rintro⟨b18,b21,b7,b8,⟨ra,rc⟩,⟨pa,pc⟩⟩;refine Ag rfl ?_ Aj;refine CG 2 rfl rfl<|Dl (λw f=>Ak w f (T1.var 1).one (some ⟨b21,0,none⟩) 1) (λw f hM=>CQ (l:=[(.var 1,none,0)]) ⟨Ak.nil _ _ _ _,tQ⟩ hM.b0) Ak.mono<|Br rfl rfl (eC Bt rfl rfl) (λw f hM=>C8 w f hM.vl CU (T1.var 1).one (some ⟨b21,0,none⟩) 1 dC hM.f0) (λ_=>⟨Ak.mono,tQ⟩) ?_;rintro⟨qa,qc⟩ -;exact Aa 1 [] (λ_=>AW [2,3,4,5,6,7] EE rfl (λ_ h=>.tail _ h)<|EC hS124567 (b18,b21,b7,b8,(ra,rc),(qa,qc)) lE (λw f hM=>hM.less sR sR nE (mR [0,2,3])))
 refine KJ K3 (KK b1 b2 b3 b4 b5 b6 [1,2,4,7]) (D4 b1 b2 b3 b4 b5 b6 [1,2,4,7]) (λ_=>[]) (f16 [1,2,4,7]) ?_ (λhS1247=>?_)
 ·
  rintro⟨b18,b21,b7,b8,⟨ra,rc⟩,⟨pa,pc⟩⟩;refine Ag rfl ?_ ?_;refine CG 1 rfl rfl<|Dl (λw f=>Ak w f (T1.var 1).one (some ⟨b21,0,none⟩) 1) (λw f hM=>CQ (l:=[(.var 1,none,0)]) ⟨Ak.nil _ _ _ _,tQ⟩ hM.b0) Ak.mono<|Br rfl rfl (eC Bt rfl rfl) (λw f hM=>C8 w f hM.vl CU (T1.var 1).one (some ⟨b21,0,none⟩) 1 dC hM.f0) (λ_=>⟨Ak.mono,tQ⟩) ?_;rintro⟨qa,qc⟩ -;exact Aa 1 [] (λ_=>AW [1,2,3,4,5,6] EE rfl (λ_ h=>.tail _ h)<|EC hS12457 (b18,b21,b7,b8,(ra,rc),(qa,qc)) lE (λw f hM=>hM.less sR sR nE (mR [0,2,3])));refine Ag rfl ?_ Aj;exact Aa 2 [] (λq=>λ_=>Au [3,4,5,6,7,8] rfl<|EC hS12467 (b18,b21,q,b8,(ra,rc),(pa,pc)) lE (λw f hM=>hM.perm (List.perm_middle (l₁:=[_]))))
 refine KJ KH (KK b1 b2 b3 b4 b5 b6 [1,2,6,7]) (D4 b1 b2 b3 b4 b5 b6 [1,2,6,7]) (λ_=>[]) (f16 [1,2,6,7]) ?_ (λhS1267=>?_)
 ·
  rintro⟨b18,b21,b7,b8,⟨ra,rc⟩,⟨pa,pc⟩⟩;refine Ag rfl ?_ Aj;exact Aa 2 [] (λq=>λ_=>Au [3,4,5,6,7,8] rfl<|EC hS12467 (b18,q,b7,b8,(ra,rc),(pa,pc)) lE (λw f hM=>hM.perm (List.perm_middle (l₁:=[_,_]))))
 refine KJ Kz (KK b1 b2 b3 b4 b5 b6 [1,2,4,6]) (D4 b1 b2 b3 b4 b5 b6 [1,2,4,6]) (λ_=>[]) (f16 [1,2,4,6]) ?_ (λhS1246=>?_)
 ·
  rintro⟨b18,b21,b7,b8,⟨ra,rc⟩,⟨pa,pc⟩⟩;refine Ag rfl ?_ ?_;refine CG 1 rfl rfl<|Dl (λw f=>Ak w f (T1.var 1).one (some ⟨b21,0,none⟩) 1) (λw f hM=>CQ (l:=[(.var 1,none,0)]) ⟨Ak.nil _ _ _ _,tQ⟩ hM.b0) Ak.mono<|Br rfl rfl (eC Bt rfl rfl) (λw f hM=>C8 w f hM.vl CU (T1.var 1).one (some ⟨b21,0,none⟩) 1 dC hM.f0) (λ_=>⟨Ak.mono,tQ⟩) ?_;rintro⟨qa,qc⟩ -;exact Aa 1 [] (λ_=>AW [1,2,3,4,5,6] EE rfl (λ_ h=>.tail _ h)<|EC hS12456 (b18,b21,b7,b8,(ra,rc),(qa,qc)) lE (λw f hM=>hM.less sR sR nE (mR [0,2,3])));refine Ag rfl ?_ Aj;exact Aa 2 [] (λq=>λ_=>Au [3,4,5,6,7,8] rfl<|EC hS12467 (b18,b21,b7,q,(ra,rc),(pa,pc)) lE (λw f hM=>hM))
 refine KJ QQ (KK b1 b2 b3 b4 b5 b6 [1,2,4,5]) (D4 b1 b2 b3 b4 b5 b6 [1,2,4,5]) (λ_=>[]) (f16 [1,2,4,5]) ?_ (λhS1245=>?_)
 ·
  rintro⟨b18,b21,b7,b8,⟨ra,rc⟩,⟨pa,pc⟩⟩;refine Ag rfl ?_ ?_;exact Aa 2 [] (λq=>λ_=>Au [1,2,3,4,5,6] rfl<|EC hS12456 (b18,b21,q,b8,(ra,rc),(pa,pc)) lE (λw f hM=>hM));refine Ag rfl ?_ Aj;exact Aa 2 [] (λq=>λ_=>Au [1,2,3,4,5,6] rfl<|EC hS12457 (b18,b21,b7,q,(ra,rc),(pa,pc)) lE (λw f hM=>hM))
 refine KJ IK (KK b1 b2 b3 b4 b5 b6 [1,4,6,7]) (D4 b1 b2 b3 b4 b5 b6 [1,4,6,7]) (λ_=>[]) (f16 [1,4,6,7]) ?_ (λhS1467=>?_)
 ·
  rintro⟨b18,b21,b7,b8,⟨ra,rc⟩,⟨pa,pc⟩⟩;refine Ag rfl ?_ Aj;refine CG 3 rfl rfl<|Dl (λw f=>Ak w f (T1.var 1).one (some ⟨b18,0,none⟩) 1) (λw f hM=>CQ (l:=[(.var 1,none,0)]) ⟨Ak.nil _ _ _ _,tQ⟩ hM.b0) Ak.mono<|Br rfl rfl (eC Bt rfl rfl) (λw f hM=>C8 w f hM.vl I0 (T1.var 1).one (some ⟨b18,0,none⟩) 1 dC hM.f0) (λ_=>⟨Ak.mono,tQ⟩) ?_;rintro⟨qa,qc⟩ -;exact Aa 1 [] (λ_=>AW [3,4,5,6,7,8] EE rfl (λ_ h=>.tail _ h)<|EC hS12467 (b18,b21,b7,b8,(qa,qc),(pa,pc)) lE (λw f hM=>hM.less sR sR nE (mR [0,2])))
 refine KJ LY (KK b1 b2 b3 b4 b5 b6 [1,4,6]) (D4 b1 b2 b3 b4 b5 b6 [1,4,6]) (λ_=>[]) (f16 [1,4,6]) ?_ (λhS146=>?_)
 ·
  rintro⟨b18,b21,b7,b8,⟨ra,rc⟩,⟨pa,pc⟩⟩;refine Ag rfl ?_ ?_;refine CG 2 rfl rfl<|Dl (λw f=>Ak w f (T1.var 1).one (some ⟨b18,0,none⟩) 1) (λw f hM=>CQ (l:=[(.var 1,none,0)]) ⟨Ak.nil _ _ _ _,tQ⟩ hM.b0) Ak.mono<|Br rfl rfl (eC Bt rfl rfl) (λw f hM=>C8 w f hM.vl I0 (T1.var 1).one (some ⟨b18,0,none⟩) 1 dC hM.f0) (λ_=>⟨Ak.mono,tQ⟩) ?_;rintro⟨qa,qc⟩ -;exact Aa 1 [] (λ_=>AW [2,3,4,5,6,7] EE rfl (λ_ h=>.tail _ h)<|EC hS1246 (b18,b21,b7,b8,(qa,qc),(pa,pc)) lE (λw f hM=>hM.less sR sR nE (mR [0,2])));refine Ag rfl ?_ Aj;exact Aa 2 [] (λq=>λ_=>Au [4,5,6,7,8,9] rfl<|EC hS1467 (b18,b21,b7,q,(ra,rc),(pa,pc)) lE (λw f hM=>hM))
 refine KJ LK (KK b1 b2 b3 b4 b5 b6 [1,4,7]) (D4 b1 b2 b3 b4 b5 b6 [1,4,7]) (λ_=>[]) (f16 [1,4,7]) ?_ (λhS147=>?_)
 ·
  rintro⟨b18,b21,b7,b8,⟨ra,rc⟩,⟨pa,pc⟩⟩;refine Ag rfl ?_ ?_;refine CG 2 rfl rfl<|Dl (λw f=>Ak w f (T1.var 1).one (some ⟨b18,0,none⟩) 1) (λw f hM=>CQ (l:=[(.var 1,none,0)]) ⟨Ak.nil _ _ _ _,tQ⟩ hM.b0) Ak.mono<|Br rfl rfl (eC Bt rfl rfl) (λw f hM=>C8 w f hM.vl I0 (T1.var 1).one (some ⟨b18,0,none⟩) 1 dC hM.f0) (λ_=>⟨Ak.mono,tQ⟩) ?_;rintro⟨qa,qc⟩ -;exact Aa 1 [] (λ_=>AW [2,3,4,5,6,7] EE rfl (λ_ h=>.tail _ h)<|EC hS1247 (b18,b21,b7,b8,(qa,qc),(pa,pc)) lE (λw f hM=>hM.less sR sR nE (mR [0,2])));refine Ag rfl ?_ Aj;exact Aa 2 [] (λq=>λ_=>Au [4,5,6,7,8,9] rfl<|EC hS1467 (b18,b21,q,b8,(ra,rc),(pa,pc)) lE (λw f hM=>hM.perm (List.perm_middle (l₁:=[_]))))
 refine KJ PG (KK b1 b2 b3 b4 b5 b6 [1,2,7]) (D4 b1 b2 b3 b4 b5 b6 [1,2,7]) (λ_=>[]) (f16 [1,2,7]) ?_ (λhS127=>?_)
 ·
  rintro⟨b18,b21,b7,b8,⟨ra,rc⟩,⟨pa,pc⟩⟩;refine Ag rfl ?_ ?_;exact Aa 2 [] (λq=>λ_=>Au [2,3,4,5,6,7] rfl<|EC hS1247 (b18,q,b7,b8,(ra,rc),(pa,pc)) lE (λw f hM=>hM.perm (List.perm_middle (l₁:=[_]))));refine Ag rfl ?_ Aj;exact Aa 2 [] (λq=>λ_=>Au [2,3,4,5,6,7] rfl<|EC hS1267 (b18,b21,q,b8,(ra,rc),(pa,pc)) lE (λw f hM=>hM.perm (List.perm_middle (l₁:=[_]))))
 refine KJ LS (KK b1 b2 b3 b4 b5 b6 [1,6,7]) (D4 b1 b2 b3 b4 b5 b6 [1,6,7]) (λ_=>[]) (f16 [1,6,7]) ?_ (λhS167=>?_)
 ·
  rintro⟨b18,b21,b7,b8,⟨ra,rc⟩,⟨pa,pc⟩⟩;refine Ag rfl ?_ ?_;refine CG 2 rfl rfl<|Dl (λw f=>Ak w f (T1.var 1).one (some ⟨b18,0,none⟩) 1) (λw f hM=>CQ (l:=[(.var 1,none,0)]) ⟨Ak.nil _ _ _ _,tQ⟩ hM.b0) Ak.mono<|Br rfl rfl (eC Bt rfl rfl) (λw f hM=>C8 w f hM.vl I0 (T1.var 1).one (some ⟨b18,0,none⟩) 1 dC hM.f0) (λ_=>⟨Ak.mono,tQ⟩) ?_;rintro⟨qa,qc⟩ -;exact Aa 1 [] (λ_=>AW [2,3,4,5,6,7] EE rfl (λ_ h=>.tail _ h)<|EC hS1267 (b18,b21,b7,b8,(qa,qc),(pa,pc)) lE (λw f hM=>hM.less sR sR nE (mR [0,2])));refine Ag rfl ?_ Aj;exact Aa 2 [] (λq=>λ_=>Au [4,5,6,7,8,9] rfl<|EC hS1467 (b18,q,b7,b8,(ra,rc),(pa,pc)) lE (λw f hM=>hM.perm (List.perm_middle (l₁:=[_,_]))))
 refine KJ Qc (KK b1 b2 b3 b4 b5 b6 [1,2,6]) (D4 b1 b2 b3 b4 b5 b6 [1,2,6]) (λ_=>[]) (f16 [1,2,6]) ?_ (λhS126=>?_)
 ·
  rintro⟨b18,b21,b7,b8,⟨ra,rc⟩,⟨pa,pc⟩⟩;refine Ag rfl ?_ ?_;exact Aa 2 [] (λq=>λ_=>Au [2,3,4,5,6,7] rfl<|EC hS1246 (b18,q,b7,b8,(ra,rc),(pa,pc)) lE (λw f hM=>hM.perm (List.perm_middle (l₁:=[_]))));refine Ag rfl ?_ Aj;exact Aa 2 [] (λq=>λ_=>Au [2,3,4,5,6,7] rfl<|EC hS1267 (b18,b21,b7,q,(ra,rc),(pa,pc)) lE (λw f hM=>hM))
 refine KJ LZ (KK b1 b2 b3 b4 b5 b6 [4,6,7]) (D4 b1 b2 b3 b4 b5 b6 [4,6,7]) (λ_=>[]) (f16 [4,6,7]) ?_ (λhS467=>?_)
 ·
  rintro⟨b18,b21,b7,b8,⟨ra,rc⟩,⟨pa,pc⟩⟩;refine Ag rfl ?_ Aj;exact Aa 2 [] (λq=>λ_=>Au [4,5,6,7,8,9] rfl<|EC hS1467 (q,b21,b7,b8,(ra,rc),(pa,pc)) lE (λw f hM=>hM.perm (List.perm_middle (l₁:=[_,_,_]))))
 refine KJ Pn (KK b1 b2 b3 b4 b5 b6 [1,2,4]) (D4 b1 b2 b3 b4 b5 b6 [1,2,4]) (λ_=>[]) (f16 [1,2,4]) ?_ (λhS124=>?_)
 ·
  rintro⟨b18,b21,b7,b8,⟨ra,rc⟩,⟨pa,pc⟩⟩;refine Ag rfl ?_ ?_;refine CG 0 rfl rfl<|Dl (λw f=>Ak w f (T1.var 1).one (some ⟨b21,0,none⟩) 1) (λw f hM=>CQ (l:=[(.var 1,none,0)]) ⟨Ak.nil _ _ _ _,tQ⟩ hM.b0) Ak.mono<|Br rfl rfl (eC Bt rfl rfl) (λw f hM=>C8 w f hM.vl CU (T1.var 1).one (some ⟨b21,0,none⟩) 1 dC hM.f0) (λ_=>⟨Ak.mono,tQ⟩) ?_;rintro⟨qa,qc⟩ -;exact Aa 1 [] (λ_=>AW [0,1,2,3,4,5] EE rfl (λ_ h=>.tail _ h)<|EC hS1245 (b18,b21,b7,b8,(ra,rc),(qa,qc)) lE (λw f hM=>hM.less sR sR nE (mR [0,2,3])));refine Ag rfl ?_ ?_;exact Aa 2 [] (λq=>λ_=>Au [2,3,4,5,6,7] rfl<|EC hS1246 (b18,b21,q,b8,(ra,rc),(pa,pc)) lE (λw f hM=>hM));refine Ag rfl ?_ Aj;exact Aa 2 [] (λq=>λ_=>Au [2,3,4,5,6,7] rfl<|EC hS1247 (b18,b21,b7,q,(ra,rc),(pa,pc)) lE (λw f hM=>hM))
 refine KJ SY (KK b1 b2 b3 b4 b5 b6 [1,4]) (D4 b1 b2 b3 b4 b5 b6 [1,4]) (λ_=>[]) (f16 [1,4]) ?_ (λhS14=>?_)
 ·
  rintro⟨b18,b21,b7,b8,⟨ra,rc⟩,⟨pa,pc⟩⟩;refine Ag rfl ?_ ?_;refine CG 1 rfl rfl<|Dl (λw f=>Ak w f (T1.var 1).one (some ⟨b18,0,none⟩) 1) (λw f hM=>CQ (l:=[(.var 1,none,0)]) ⟨Ak.nil _ _ _ _,tQ⟩ hM.b0) Ak.mono<|Br rfl rfl (eC Bt rfl rfl) (λw f hM=>C8 w f hM.vl I0 (T1.var 1).one (some ⟨b18,0,none⟩) 1 dC hM.f0) (λ_=>⟨Ak.mono,tQ⟩) ?_;rintro⟨qa,qc⟩ -;exact Aa 1 [] (λ_=>AW [1,2,3,4,5,6] EE rfl (λ_ h=>.tail _ h)<|EC hS124 (b18,b21,b7,b8,(qa,qc),(pa,pc)) lE (λw f hM=>hM.less sR sR nE (mR [0,2])));refine Ag rfl ?_ ?_;exact Aa 2 [] (λq=>λ_=>Au [3,4,5,6,7,8] rfl<|EC hS146 (b18,b21,q,b8,(ra,rc),(pa,pc)) lE (λw f hM=>hM));refine Ag rfl ?_ Aj;exact Aa 2 [] (λq=>λ_=>Au [3,4,5,6,7,8] rfl<|EC hS147 (b18,b21,b7,q,(ra,rc),(pa,pc)) lE (λw f hM=>hM))
 refine KJ SM (KK b1 b2 b3 b4 b5 b6 [4,6]) (D4 b1 b2 b3 b4 b5 b6 [4,6]) (λ_=>[]) (f16 [4,6]) ?_ (λhS46=>?_)
 ·
  rintro⟨b18,b21,b7,b8,⟨ra,rc⟩,⟨pa,pc⟩⟩;refine Ag rfl ?_ ?_;exact Aa 2 [] (λq=>λ_=>Au [3,4,5,6,7,8] rfl<|EC hS146 (q,b21,b7,b8,(ra,rc),(pa,pc)) lE (λw f hM=>hM.perm (List.perm_middle (l₁:=[_,_]))));refine Ag rfl ?_ Aj;exact Aa 2 [] (λq=>λ_=>Au [3,4,5,6,7,8] rfl<|EC hS467 (b18,b21,b7,q,(ra,rc),(pa,pc)) lE (λw f hM=>hM))
 refine KJ Ul (KK b1 b2 b3 b4 b5 b6 [1,7]) (D4 b1 b2 b3 b4 b5 b6 [1,7]) (λ_=>[]) (f16 [1,7]) ?_ (λhS17=>?_)
 ·
  rintro⟨b18,b21,b7,b8,⟨ra,rc⟩,⟨pa,pc⟩⟩;refine Ag rfl ?_ ?_;refine CG 1 rfl rfl<|Dl (λw f=>Ak w f (T1.var 1).one (some ⟨b18,0,none⟩) 1) (λw f hM=>CQ (l:=[(.var 1,none,0)]) ⟨Ak.nil _ _ _ _,tQ⟩ hM.b0) Ak.mono<|Br rfl rfl (eC Bt rfl rfl) (λw f hM=>C8 w f hM.vl I0 (T1.var 1).one (some ⟨b18,0,none⟩) 1 dC hM.f0) (λ_=>⟨Ak.mono,tQ⟩) ?_;rintro⟨qa,qc⟩ -;exact Aa 1 [] (λ_=>AW [1,2,3,4,5,6] EE rfl (λ_ h=>.tail _ h)<|EC hS127 (b18,b21,b7,b8,(qa,qc),(pa,pc)) lE (λw f hM=>hM.less sR sR nE (mR [0,2])));refine Ag rfl ?_ ?_;exact Aa 2 [] (λq=>λ_=>Au [3,4,5,6,7,8] rfl<|EC hS147 (b18,q,b7,b8,(ra,rc),(pa,pc)) lE (λw f hM=>hM.perm (List.perm_middle (l₁:=[_]))));refine Ag rfl ?_ Aj;exact Aa 2 [] (λq=>λ_=>Au [3,4,5,6,7,8] rfl<|EC hS167 (b18,b21,q,b8,(ra,rc),(pa,pc)) lE (λw f hM=>hM.perm (List.perm_middle (l₁:=[_]))))
 refine KJ Ug (KK b1 b2 b3 b4 b5 b6 [1,6]) (D4 b1 b2 b3 b4 b5 b6 [1,6]) (λ_=>[]) (f16 [1,6]) ?_ (λhS16=>?_)
 ·
  rintro⟨b18,b21,b7,b8,⟨ra,rc⟩,⟨pa,pc⟩⟩;refine Ag rfl ?_ ?_;refine CG 1 rfl rfl<|Dl (λw f=>Ak w f (T1.var 1).one (some ⟨b18,0,none⟩) 1) (λw f hM=>CQ (l:=[(.var 1,none,0)]) ⟨Ak.nil _ _ _ _,tQ⟩ hM.b0) Ak.mono<|Br rfl rfl (eC Bt rfl rfl) (λw f hM=>C8 w f hM.vl I0 (T1.var 1).one (some ⟨b18,0,none⟩) 1 dC hM.f0) (λ_=>⟨Ak.mono,tQ⟩) ?_;rintro⟨qa,qc⟩ -;exact Aa 1 [] (λ_=>AW [1,2,3,4,5,6] EE rfl (λ_ h=>.tail _ h)<|EC hS126 (b18,b21,b7,b8,(qa,qc),(pa,pc)) lE (λw f hM=>hM.less sR sR nE (mR [0,2])));refine Ag rfl ?_ ?_;exact Aa 2 [] (λq=>λ_=>Au [3,4,5,6,7,8] rfl<|EC hS146 (b18,q,b7,b8,(ra,rc),(pa,pc)) lE (λw f hM=>hM.perm (List.perm_middle (l₁:=[_]))));refine Ag rfl ?_ Aj;exact Aa 2 [] (λq=>λ_=>Au [3,4,5,6,7,8] rfl<|EC hS167 (b18,b21,b7,q,(ra,rc),(pa,pc)) lE (λw f hM=>hM))
 refine KJ SD (KK b1 b2 b3 b4 b5 b6 [4,7]) (D4 b1 b2 b3 b4 b5 b6 [4,7]) (λ_=>[]) (f16 [4,7]) ?_ (λhS47=>?_)
 ·
  rintro⟨b18,b21,b7,b8,⟨ra,rc⟩,⟨pa,pc⟩⟩;refine Ag rfl ?_ ?_;exact Aa 2 [] (λq=>λ_=>Au [3,4,5,6,7,8] rfl<|EC hS147 (q,b21,b7,b8,(ra,rc),(pa,pc)) lE (λw f hM=>hM.perm (List.perm_middle (l₁:=[_,_]))));refine Ag rfl ?_ Aj;exact Aa 2 [] (λq=>λ_=>Au [3,4,5,6,7,8] rfl<|EC hS467 (b18,b21,q,b8,(ra,rc),(pa,pc)) lE (λw f hM=>hM.perm (List.perm_middle (l₁:=[_]))))
 refine KJ S1 (KK b1 b2 b3 b4 b5 b6 [6,7]) (D4 b1 b2 b3 b4 b5 b6 [6,7]) (λ_=>[]) (f16 [6,7]) ?_ (λhS67=>?_)
 ·
  rintro⟨b18,b21,b7,b8,⟨ra,rc⟩,⟨pa,pc⟩⟩;refine Ag rfl ?_ ?_;exact Aa 2 [] (λq=>λ_=>Au [3,4,5,6,7,8] rfl<|EC hS167 (q,b21,b7,b8,(ra,rc),(pa,pc)) lE (λw f hM=>hM.perm (List.perm_middle (l₁:=[_,_]))));refine Ag rfl ?_ Aj;exact Aa 2 [] (λq=>λ_=>Au [3,4,5,6,7,8] rfl<|EC hS467 (b18,q,b7,b8,(ra,rc),(pa,pc)) lE (λw f hM=>hM.perm (List.perm_middle (l₁:=[_,_]))))
 refine KJ Xh (KK b1 b2 b3 b4 b5 b6 [1,2]) (D4 b1 b2 b3 b4 b5 b6 [1,2]) (λ_=>[]) (f16 [1,2]) ?_ (λhS12=>?_)
 ·
  rintro⟨b18,b21,b7,b8,⟨ra,rc⟩,⟨pa,pc⟩⟩;refine Ag rfl ?_ ?_;exact Aa 2 [] (λq=>λ_=>Au [1,2,3,4,5,6] rfl<|EC hS124 (b18,q,b7,b8,(ra,rc),(pa,pc)) lE (λw f hM=>hM));refine Ag rfl ?_ ?_;exact Aa 2 [] (λq=>λ_=>Au [1,2,3,4,5,6] rfl<|EC hS126 (b18,b21,q,b8,(ra,rc),(pa,pc)) lE (λw f hM=>hM));refine Ag rfl ?_ Aj;exact Aa 2 [] (λq=>λ_=>Au [1,2,3,4,5,6] rfl<|EC hS127 (b18,b21,b7,q,(ra,rc),(pa,pc)) lE (λw f hM=>hM))
 refine KJ gD (KK b1 b2 b3 b4 b5 b6 [1]) (D4 b1 b2 b3 b4 b5 b6 [1]) (λ_=>[]) (f16 [1]) ?_ (λhS1=>?_)
 ·
  rintro⟨b18,b21,b7,b8,⟨ra,rc⟩,⟨pa,pc⟩⟩;refine Ag rfl ?_ ?_;refine CG 0 rfl rfl<|Dl (λw f=>Ak w f (T1.var 1).one (some ⟨b18,0,none⟩) 1) (λw f hM=>CQ (l:=[(.var 1,none,0)]) ⟨Ak.nil _ _ _ _,tQ⟩ hM.b0) Ak.mono<|Br rfl rfl (eC Bt rfl rfl) (λw f hM=>C8 w f hM.vl I0 (T1.var 1).one (some ⟨b18,0,none⟩) 1 dC hM.f0) (λ_=>⟨Ak.mono,tQ⟩) ?_;rintro⟨qa,qc⟩ -;exact Aa 1 [] (λ_=>AW [0,1,2,3,4,5] EE rfl (λ_ h=>.tail _ h)<|EC hS12 (b18,b21,b7,b8,(qa,qc),(pa,pc)) lE (λw f hM=>hM.less sR sR nE (mR [0,2])));refine Ag rfl ?_ ?_;exact Aa 2 [] (λq=>λ_=>Au [2,3,4,5,6,7] rfl<|EC hS14 (b18,q,b7,b8,(ra,rc),(pa,pc)) lE (λw f hM=>hM));refine Ag rfl ?_ ?_;exact Aa 2 [] (λq=>λ_=>Au [2,3,4,5,6,7] rfl<|EC hS16 (b18,b21,q,b8,(ra,rc),(pa,pc)) lE (λw f hM=>hM));refine Ag rfl ?_ Aj;exact Aa 2 [] (λq=>λ_=>Au [2,3,4,5,6,7] rfl<|EC hS17 (b18,b21,b7,q,(ra,rc),(pa,pc)) lE (λw f hM=>hM))
 refine KJ eJ (KK b1 b2 b3 b4 b5 b6 [4]) (D4 b1 b2 b3 b4 b5 b6 [4]) (λ_=>[]) (f16 [4]) ?_ (λhS4=>?_)
 ·
  rintro⟨b18,b21,b7,b8,⟨ra,rc⟩,⟨pa,pc⟩⟩;refine Ag rfl ?_ ?_;exact Aa 2 [] (λq=>λ_=>Au [2,3,4,5,6,7] rfl<|EC hS14 (q,b21,b7,b8,(ra,rc),(pa,pc)) lE (λw f hM=>hM.perm (List.perm_middle (l₁:=[_]))));refine Ag rfl ?_ ?_;exact Aa 2 [] (λq=>λ_=>Au [2,3,4,5,6,7] rfl<|EC hS46 (b18,b21,q,b8,(ra,rc),(pa,pc)) lE (λw f hM=>hM));refine Ag rfl ?_ Aj;exact Aa 2 [] (λq=>λ_=>Au [2,3,4,5,6,7] rfl<|EC hS47 (b18,b21,b7,q,(ra,rc),(pa,pc)) lE (λw f hM=>hM))
 refine KJ eU (KK b1 b2 b3 b4 b5 b6 [7]) (D4 b1 b2 b3 b4 b5 b6 [7]) (λ_=>[]) (f16 [7]) ?_ (λhS7=>?_)
 ·
  rintro⟨b18,b21,b7,b8,⟨ra,rc⟩,⟨pa,pc⟩⟩;refine Ag rfl ?_ ?_;exact Aa 2 [] (λq=>λ_=>Au [2,3,4,5,6,7] rfl<|EC hS17 (q,b21,b7,b8,(ra,rc),(pa,pc)) lE (λw f hM=>hM.perm (List.perm_middle (l₁:=[_]))));refine Ag rfl ?_ ?_;exact Aa 2 [] (λq=>λ_=>Au [2,3,4,5,6,7] rfl<|EC hS47 (b18,q,b7,b8,(ra,rc),(pa,pc)) lE (λw f hM=>hM.perm (List.perm_middle (l₁:=[_]))));refine Ag rfl ?_ Aj;exact Aa 2 [] (λq=>λ_=>Au [2,3,4,5,6,7] rfl<|EC hS67 (b18,b21,q,b8,(ra,rc),(pa,pc)) lE (λw f hM=>hM.perm (List.perm_middle (l₁:=[_]))))
 refine KJ eO (KK b1 b2 b3 b4 b5 b6 [6]) (D4 b1 b2 b3 b4 b5 b6 [6]) (λ_=>[]) (f16 [6]) ?_ (λhS6=>?_)
 ·
  rintro⟨b18,b21,b7,b8,⟨ra,rc⟩,⟨pa,pc⟩⟩;refine Ag rfl ?_ ?_;exact Aa 2 [] (λq=>λ_=>Au [2,3,4,5,6,7] rfl<|EC hS16 (q,b21,b7,b8,(ra,rc),(pa,pc)) lE (λw f hM=>hM.perm (List.perm_middle (l₁:=[_]))));refine Ag rfl ?_ ?_;exact Aa 2 [] (λq=>λ_=>Au [2,3,4,5,6,7] rfl<|EC hS46 (b18,q,b7,b8,(ra,rc),(pa,pc)) lE (λw f hM=>hM.perm (List.perm_middle (l₁:=[_]))));refine Ag rfl ?_ Aj;exact Aa 2 [] (λq=>λ_=>Au [2,3,4,5,6,7] rfl<|EC hS67 (b18,b21,b7,q,(ra,rc),(pa,pc)) lE (λw f hM=>hM))
 refine KJ pG (KK b1 b2 b3 b4 b5 b6 []) (D4 b1 b2 b3 b4 b5 b6 []) (λ_=>[]) (f16 []) ?_ (λhS=>?_)
 ·
  rintro⟨b18,b21,b7,b8,⟨ra,rc⟩,⟨pa,pc⟩⟩;refine Ag rfl ?_ ?_;exact Aa 2 [] (λq=>λ_=>Au [1,2,3,4,5,6] rfl<|EC hS1 (q,b21,b7,b8,(ra,rc),(pa,pc)) lE (λw f hM=>hM));refine Ag rfl ?_ ?_;exact Aa 2 [] (λq=>λ_=>Au [1,2,3,4,5,6] rfl<|EC hS4 (b18,q,b7,b8,(ra,rc),(pa,pc)) lE (λw f hM=>hM));refine Ag rfl ?_ ?_;exact Aa 2 [] (λq=>λ_=>Au [1,2,3,4,5,6] rfl<|EC hS6 (b18,b21,q,b8,(ra,rc),(pa,pc)) lE (λw f hM=>hM));refine Ag rfl ?_ Aj;exact Aa 2 [] (λq=>λ_=>Au [1,2,3,4,5,6] rfl<|EC hS7 (b18,b21,b7,q,(ra,rc),(pa,pc)) lE (λw f hM=>hM))
 exact EC hS (0,0,0,0,(none,0),(none,0)) lE (λw f hM=>hM);rintro⟨b7,b8,⟨ra,rc⟩,⟨pa,pc⟩⟩ -;dsimp only;refine Aa 8 [] (λb31=>λ_=>CW rfl rfl (λw f hM=>Me rfl)<|Aa 4 [] (λ_=>nU 0 rfl rfl<|vF (M1 b31 none) (DG 121 124 b31 (.slice none 0 0) none 0 0 []) (λb h=>h.elim .inr λh=>by cases h) (λw f h=>⟨h.2,⟨rfl,.inl ⟨rfl,rfl,rfl⟩⟩,λh=>by cases h⟩) DG.stab<|Dl (λw f=>CI w f [] []) (λw f hM=>rfl) CI.mono<|Aa 6 [7,7,7] (y<|y<|y<|λb32=>λ_=>G8 0 5 [qI,qI,qI] rfl rfl rfl rfl rfl rfl (λw f _ _ hM=>⟨hM.f3,⟨qN,⟨qN,⟨qN,tQ⟩⟩⟩⟩) ⟨kI,⟨kI,⟨kI,tQ⟩⟩⟩ λa1 c1 xs1=>Aa 8 [7,7] (y<|y<|λb33=>λ_=>G8 0 6 [qI,qI] rfl rfl rfl rfl rfl rfl (λw f _ _ hM=>⟨hM.f3,⟨qN,⟨qN,tQ⟩⟩⟩) ⟨kI,⟨kI,tQ⟩⟩ λa2 c2 xs2=>?_))));refine Aa 9 [7,7,4] (y<|y<|y<|λb34=>λ_=>G8 0 9 [qI,qI,qB] rfl rfl rfl rfl rfl rfl (λw f _ _ hM=>⟨hM.f3,⟨qN,⟨qN,⟨qN,tQ⟩⟩⟩⟩) ⟨kI,⟨kI,⟨kB,tQ⟩⟩⟩ λa3 c3 xs3=>Aa 9 [6,6,6] (y<|y<|y<|λb35=>λ_=>G8 0 13 [qF,qF,qF] rfl rfl rfl rfl rfl rfl (λw f _ _ hM=>⟨hM.f3,⟨qN,⟨qN,⟨qN,tQ⟩⟩⟩⟩) ⟨kF,⟨kF,⟨kF,tQ⟩⟩⟩ λa4 c4 xs4=>Aa 8 [6,6] (y<|y<|λb36=>λ_=>G8 0 15 [qF,qF] rfl rfl rfl rfl rfl rfl (λw f _ _ hM=>⟨hM.f3,⟨qN,⟨qN,tQ⟩⟩⟩) ⟨kF,⟨kF,tQ⟩⟩ λa5 c5 xs5=>Aa 9 [6,6,4] (y<|y<|y<|λb37=>λ_=>G8 0 18 [qF,qF,qB] rfl rfl rfl rfl rfl rfl (λw f _ _ hM=>⟨hM.f3,⟨qN,⟨qN,⟨qN,tQ⟩⟩⟩⟩) ⟨kF,⟨kF,⟨kB,tQ⟩⟩⟩ λa6 c6 xs6=>Aa 8 [7,6] (y<|y<|λb38=>λ_=>G8 0 19 [qI,qF] rfl rfl rfl rfl rfl rfl (λw f _ _ hM=>⟨hM.f3,⟨qN,⟨qN,tQ⟩⟩⟩) ⟨kI,⟨kF,tQ⟩⟩ λa7 c7 xs7=>?_)))));refine Aa 8 [6,7] (y<|y<|λb39=>λ_=>G8 0 20 [qF,qI] rfl rfl rfl rfl rfl rfl (λw f _ _ hM=>⟨hM.f3,⟨qN,⟨qN,tQ⟩⟩⟩) ⟨kF,⟨kI,tQ⟩⟩ λa8 c8 xs8=>Aa 8 [6,5] (y<|y<|λb40=>λ_=>G8 0 21 [qF,qS] rfl rfl rfl rfl rfl rfl (λw f _ _ hM=>⟨hM.f3,⟨qN,⟨qN,tQ⟩⟩⟩) ⟨kF,⟨kS,tQ⟩⟩ λa9 c9 xs9=>Aa 7 [6] (y<|λb41=>λ_=>G8 0 23 [qF] rfl rfl rfl rfl rfl rfl (λw f _ _ hM=>⟨hM.f3,⟨qN,tQ⟩⟩) ⟨kF,tQ⟩ λa10 c10 xs10=>Aa 9 [5,5,5] (y<|y<|y<|λb42=>λ_=>G8 0 24 [qS,qS,qS] rfl rfl rfl rfl rfl rfl (λw f _ _ hM=>⟨hM.f3,⟨qN,⟨qN,⟨qN,tQ⟩⟩⟩⟩) ⟨kS,⟨kS,⟨kS,tQ⟩⟩⟩ λa11 c11 xs11=>Aa 8 [5,7] (y<|y<|λb43=>λ_=>G8 0 27 [qS,qI] rfl rfl rfl rfl rfl rfl (λw f _ _ hM=>⟨hM.f3,⟨qN,⟨qN,tQ⟩⟩⟩) ⟨kS,⟨kI,tQ⟩⟩ λa12 c12 xs12=>?_)))))
 refine Aa 10 [5,7,7,5] (y<|y<|y<|y<|λb44=>λ_=>G8 0 28 [qS,qI,qI,qS] rfl rfl rfl rfl rfl rfl (λw f _ _ hM=>⟨hM.f3,⟨qN,⟨qN,⟨qN,⟨qN,tQ⟩⟩⟩⟩⟩) ⟨kS,⟨kI,⟨kI,⟨kS,tQ⟩⟩⟩⟩ λa13 c13 xs13=>Aa 9 [5,5,4] (y<|y<|y<|λb45=>λ_=>G8 0 30 [qS,qS,qB] rfl rfl rfl rfl rfl rfl (λw f _ _ hM=>⟨hM.f3,⟨qN,⟨qN,⟨qN,tQ⟩⟩⟩⟩) ⟨kS,⟨kS,⟨kB,tQ⟩⟩⟩ λa14 c14 xs14=>Aa 8 [7,5] (y<|y<|λb46=>λ_=>G8 0 32 [qI,qS] rfl rfl rfl rfl rfl rfl (λw f _ _ hM=>⟨hM.f3,⟨qN,⟨qN,tQ⟩⟩⟩) ⟨kI,⟨kS,tQ⟩⟩ λa15 c15 xs15=>Aa 8 [5,3] (y<|y<|λb47=>λ_=>G8 0 33 [qS,qU] rfl rfl rfl rfl rfl rfl (λw f _ _ hM=>⟨hM.f3,⟨qN,⟨qN,tQ⟩⟩⟩) ⟨kS,⟨kU,tQ⟩⟩ λa16 c16 xs16=>Aa 8 [3,5] (y<|y<|λb48=>λ_=>G8 0 34 [qU,qS] rfl rfl rfl rfl rfl rfl (λw f _ _ hM=>⟨hM.f3,⟨qN,⟨qN,tQ⟩⟩⟩) ⟨kU,⟨kS,tQ⟩⟩ λa17 c17 xs17=>?_)))));refine Aa 8 [2,1] (y<|y<|λb49=>λ_=>G8 0 35 [qV,(qR ra rc)] rfl rfl rfl rfl rfl rfl (λw f _ _ hM=>⟨hM.f3,⟨qN,⟨hM.f2,tQ⟩⟩⟩) ⟨kV,⟨(Dc dC dC tQ),tQ⟩⟩ λa18 c18 xs18=>Aa 8 [1,2] (y<|y<|λb50=>λ_=>G8 0 36 [(qR ra rc),qV] rfl rfl rfl rfl rfl rfl (λw f _ _ hM=>⟨hM.f3,⟨hM.f2,⟨qN,tQ⟩⟩⟩) ⟨(Dc dC dC tQ),⟨kV,tQ⟩⟩ λa19 c19 xs19=>Aa 9 [1,2,3] (y<|y<|y<|λb51=>λ_=>G8 0 37 [(qR ra rc),qV,qU] rfl rfl rfl rfl rfl rfl (λw f _ _ hM=>⟨hM.f3,⟨hM.f2,⟨qN,⟨qN,tQ⟩⟩⟩⟩) ⟨(Dc dC dC tQ),⟨kV,⟨kU,tQ⟩⟩⟩ λa20 c20 xs20=>Aa 8 [2,0] (y<|y<|λb52=>λ_=>G8 0 38 [qV,(qP pa pc)] rfl rfl rfl rfl rfl rfl (λw f _ _ hM=>⟨hM.f3,⟨qN,⟨hM.f1,tQ⟩⟩⟩) ⟨kV,⟨(Dc dC dC tQ),tQ⟩⟩ λa21 c21 xs21=>Aa 8 [0,2] (y<|y<|λb53=>λ_=>G8 0 39 [(qP pa pc),qV] rfl rfl rfl rfl rfl rfl (λw f _ _ hM=>⟨hM.f3,⟨hM.f1,⟨qN,tQ⟩⟩⟩) ⟨(Dc dC dC tQ),⟨kV,tQ⟩⟩ λa22 c22 xs22=>?_)))));exact Aa 9 [0,2,3] (y<|y<|y<|λb54=>λ_=>G8 0 40 [(qP pa pc),qV,qU] rfl rfl rfl rfl rfl rfl (λw f _ _ hM=>⟨hM.f3,⟨hM.f1,⟨qN,⟨qN,tQ⟩⟩⟩⟩) ⟨(Dc dC dC tQ),⟨kV,⟨kU,tQ⟩⟩⟩ λa23 c23 xs23=>Aa 4 [] (λ_=>CW rfl rfl (λw f hM=>Ai rfl JN hM.res.blk rfl)<|Aa 4 [] (λ_=>AL (C4 rfl rfl) (λw f hM=>by obtain⟨f2,h1,h2⟩:=hM.res.fin (l:=Cd) hM.exm (λb hb=>(hM.mi b (.inr hb)).2.2.elim id λh=>h.elim) hM.f0 rfl dC;exact⟨(a23,c23),f2,rfl,tQ,h1,⟨h2,tQ⟩⟩))))
def Pb(p:QT):Bd:=⟨p.1,Cn p.2.2 [1] (T1.var (0-1)).one,[0-1]⟩
def GN(i:Nat):Ba:=((Cd.take i).map Pb).reverse
variable {nu:Int}{i:Nat}{dt:lU}
theorem W1{p:QT}(h:Cd[i]?=some p):GN (i+1)=Pb p::GN i:=by
 unfold GN;rw[Cy h,List.map_append,List.reverse_append];rfl
theorem QZ:GN Cd.length=Pa:=kR
theorem Mv:∀p,p∈Cd→p.2.2.bnd:=by
 intro p hp;simp only[Cd,List.mem_cons,List.not_mem_nil,or_false] at hp;have h1:∀{l:List (T1×Option Addr×Nat)},XY l→(Hj (Sp l)).bnd:=λh=>UE (Pd h);have hv:=Bv 1;have h0:∀{t:lU},t.length≤1000000→(c0 t).bnd:=λh=>CH h;have hr:(T1.con I0 (T1.var 1).one).bnd:=Dc dC dC tQ;have hp2:(T1.con CU (T1.var 1).one).bnd:=Dc dC dC tQ;have bi:=h0 (t:=bI) dC;have bf:=h0 (t:=bF) dC;have bs:=h0 (t:=bS) dC;have bb:=h0 (t:=bB) dC;have bu:=h0 (t:=bU) dC
 repeat' (rcases hp with rfl|hp)
 all_goals first|(subst hp)|skip
 all_goals (refine h1 ?_;simp only[XY,and_true];simp[*])
theorem Rp{nm:lU}{ar:Nat}(h:HC[i]?=some (nm,dt,nu,ar)):ar≤1:=by
 have:∀p∈HC,p.2.2.2≤1:=dC;exact this _ (List.mem_of_getElem? h)
theorem R2{nm:lU}{ar:Nat}(h:HC[i]?=some (nm,dt,nu,ar)):dt.length≤1000000:=by
 have:∀p∈HC,p.2.1.length≤1000000:=dC;exact this _ (List.mem_of_getElem? h)
theorem uK:D0 (⟨[],0,WO 0,[],[],0⟩:CS):=⟨tQ,λ_ _ h=>(by cases h),tQ,tQ,tQ,Int.le_refl _⟩
set_option maxHeartbeats 2000000 in
theorem S5(w:World)(f:Fq)(hv:Vl w f)(hG:ET w f) :
  Bo prog 22 #[] w (JG (α:=Ad×Option Addr) (λx=>.tuple #[pB x.1.cb,.pointer x.2]) (λx=>x.1.ok) (λ_=>False) (λx=>By x.1) (λx=>As 84 163 x.1 ZS) (λx=>[λw f=>AF w f Pa x.2]) w f):=by
 refine Ch (X:=X0 w f) (H:=[]) (R:=[]) (B:=[]) (Fs:=[λw f=>ET w f]) (f:=f) func22 rfl rfl rfl (BR hv ⟨hG,tQ⟩ ⟨ET.mono,tQ⟩)<|Aa 8 [] (λ_=>Ud (XX:=λ_ _=>False) rfl rfl (eC mC rfl rfl) (λw f hM=>(Zx w f hM.vl).retP) (λ_=>B8.stab (.inl rfl) (.inr rfl)) (λ_=>trivial) (λ_ _ _ _ _ h=>h.elim) ?_);rintro⟨sb,mb⟩ hsm;dsimp only at hsm ⊢;refine X5 (K:=BI) rfl rfl λkm hkm=>X5 (K:=BI) rfl rfl λdm hdm=>X5 (K:=BI) rfl rfl λrm hrm=>Aa 7 [] (λb1=>λ_=>Io (λw f hM=>(hM.own b1 (.head _)).2.2) λhcb=>nU 0 rfl rfl ?_);obtain⟨A,rfl,rfl,rfl,rfl,rfl,rfl⟩:∃A:Ad,A.cb=b1∧A.sb=sb∧A.mb=mb∧A.km=km∧A.dm=dm∧A.rm=rm:=⟨⟨b1,sb,mb,km,dm,rm⟩,rfl,rfl,rfl,rfl,rfl,rfl⟩;have hA:A.ok:=⟨λe=>hcb (.inl (.inl (.inl (.inl e)))),⟨λe=>hcb (.inl (.inl (.inl (.inr e)))),λe=>hcb (.inl (.inl (.inr e))),λe=>hcb (.inl (.inr e)),λe=>hcb (.inr e)⟩,⟨hsm,λe=>hkm (.inl e.symm),λe=>hdm (.inl (.inl e.symm)),λe=>hrm (.inl (.inl (.inl e.symm)))⟩,⟨λe=>hkm (.inr e.symm),λe=>hdm (.inl (.inr e.symm)),λe=>hrm (.inl (.inl (.inr e.symm))),λe=>hdm (.inr e.symm),λe=>hrm (.inl (.inr e.symm)),λe=>hrm (.inr e.symm)⟩⟩;refine vF (By A) (As 84 163 A (⟨[],0,WO 0,[],[],0⟩:CS)) (λb h=>by rcases h with h|h|h|h|h|h;exact .inr h;exact .inl (.inl (.inl (.inl (.inl h))));exact .inl (.inl (.inl (.inl (.inr h))));exact .inl (.inl (.inl (.inr h)));exact .inl (.inl (.inr h));exact .inl (.inr h)) (λw f h=>⟨h.2,⟨0,h.1.1.1.1⟩,⟨[],h.1.1.1.2,rfl⟩,h.1.1.2,h.1.2⟩) As.stab<|Aa 1 [] (λ_=>Br rfl rfl (eC mI rfl rfl) (λw f hM=>S6 w f hM.vl) (λx=>⟨λ_ _ _ _ h hF=>Cs.mono h hF,tQ⟩) ?_);rintro kb -;refine Aa 5 [] (λ_=>?_);refine Fp (α:=Nat) (λi=>8-i) (λi=>i≤8∧D0 (⟨[],0,WO i,[],[],0⟩:CS)) (λi=>(E4 2 (pB A.cb) 15 (.slice (some ⟨kb,0,none⟩) 8 8) 16 (iV ((8:Nat):Int)) 17 (iV (i:Int)))) (λi=>⟨λ_=>False,By A,As 84 163 A (⟨[],0,WO i,[],[],0⟩:CS),w,f⟩) (λi=>[]) (λi=>[]) (λi=>[]) (λi=>[λw f=>Cs w f kb 0 Pz,λw f=>ET w f]) (0) ⟨Nat.zero_le _,uK⟩ lE (λw f hM=>hM.less sR sR nE (mR [0,1])) ?_;rintro i ⟨hi,hwi⟩;refine Aa 6 [] (λ_=>AJ 18 rfl rfl (λh1=>?_) (λh1=>?_));refine Aa 6 [] (λ_=>?_);have hil:i<8:=by have:=of_decide_eq_true h1;omega
 obtain⟨⟨nm,dt,nu,ar⟩,hx⟩:∃v,HC[i]?=some v:=⟨_,List.getElem?_eq_getElem (l:=HC) hil⟩;have har:ar≤1:=Rp hx;refine KP (α:=Unit) (λx=>True) (λx=>[⟨kb,0+i*4,cC (nm,dt,nu,ar)⟩]) (λx=>[]) (λw f hM=>⟨(),tQ,(λe he=>by cases he with|head=>exact Cs.flat cC 4 (λ_=>rfl) HC 0 i _ hM.f0 hx|tail _ h=>cases h),λ_ h=>by cases h⟩) (λx=>Ax.mem tQ) ?_;rintro⟨⟩ -;refine Aa 11 [100,0,0,0] (aI oM<|y2<|λb2=>y<|y<|λ_=>Br rfl rfl (eC Bt rfl rfl) (λw f hM=>Bl w f hM.vl dt) (λx=>trivial) ?_);rintro⟨⟩ -;refine Aa 14 [0,1] (λb3=>y<|y<|λ_=>NK 76 4 ?_);refine Fp (α:=Nat×List Value×Option Addr×Nat) (λx=>ar-x.1) (λx=>x.1≤ar) (λx=>(E8 2 (pB A.cb) 4 (pB b2) 5 (pB b3) 15 (.slice (some ⟨kb,0,none⟩) 8 8) 16 (iV ((8:Nat):Int)) 17 (iV (i:Int)) 26 (iV (ar:Int)) 27 (iV (x.1:Int)))) (λx=>⟨λ_=>False,By A,As 84 163 A (⟨[],0,WO i,[],[],0⟩:CS),w,f⟩) (λx=>[⟨b3,[.slice x.2.2.1 x.1 x.2.2.2,iV 1,iV 0,S dt,.slice none 0 0,.slice none 0 0],120,true⟩,⟨b2,cC (nm,dt,nu,ar),118,true⟩]) (λx=>[⟨76,4,x.2.2.1,x.2.2.2,x.1,x.2.1⟩]) (λx=>[]) (λx=>[λw f=>Be w f (NJ x.1) x.2.1,λw f=>Cs w f kb 0 Pz,λw f=>ET w f]) (0,[],none,0) (Nat.zero_le _) lE (λw f hM=>hM.more (B':=[]) (F':=[λw f=>Be w f .nil []]) nE (AE.mem ⟨rfl,tQ⟩) (Ax.mem ⟨Be.mono,tQ⟩) |>.less (sK (sK sZ)) sR nE (mR [0,1,2])) ?_;rintro⟨j,xs,ra,rc⟩ hj;dsimp only at hj ⊢;have hj0:=hj;refine Aa 6 [] (λ_=>AJ 28 rfl rfl (λh2=>?_) (λh2=>?_));refine Aa 5 [] (λ_=>?_);have hjl:j<ar:=by have:=of_decide_eq_true h2;omega
 refine C3 [1] Am (.rd 0 (.br 1 (.br 2 (.br 3 (.br 4 (.rd 5 (.br 6 .fin .fin)) .fin) .fin) .fin) (.br 2 (.br 1 (.br 3 (.br 4 (.rd 5 (.br 6 .fin .fin)) .fin) .fin) (.br 3 (.br 1 (.br 4 (.rd 5 (.br 6 .fin .fin)) .fin) .fin) .fin)) .fin))) rfl kR<|A2 1 [] (λ_=>Ag rfl ?_ ?_);refine Aa 2 [0] (y<|λ_=>Au [1] rfl<|Ag rfl ?_ Aj);refine Br rfl rfl (eC Bt rfl rfl) (λw f hM=>Bl w f hM.vl [115,116,114,105,110,103]) (λx=>trivial) ?_;rintro⟨⟩ -;refine Aa 1 [] (λ_=>Au [1] rfl<|Ag rfl ?_ Aj);refine Aa 2 [] (λb4=>λ_=>Au [2] rfl<|Ag rfl ?_ Aj);refine Da 0 0 rfl rfl CM rfl rfl rfl rfl rfl rfl rfl rfl (λ_ _=>rfl) oM oM λra2 rc2=>Aa 1 [] (λ_=>Au [2] rfl<|A2 1 [] (λ_=>Ag rfl ?_ Aj));exact Aa 2 [1] (y<|λ_=>Au [2] rfl<|Bk<|Aa 6 [] (aI ⟨oM,oM⟩<|λ_=>CX ((j+1,xs++tC (c0 bS) none 0,ra2,rc2)) (show ar-(j+1)<ar-j by omega) (show j+1≤ar by omega) lE (λw f hM=>⟨_,(hM.more (B':=[]) (F':=[λw f=>Be w f (NJ (j+1)) (xs++tC (c0 bS) none 0)]) nE (AE.mem ⟨Be.snoc (Ak.nil _ _ _ _) hM.f0,tQ⟩) (Ax.mem ⟨Be.mono,tQ⟩)).less (sD (sK (sK sZ))) sR nE (mR [0,2,3])⟩)));refine Ag rfl ?_ Aj;refine Br rfl rfl (eC Bt rfl rfl) (λw f hM=>Bl w f hM.vl [115,116,114,105,110,103]) (λx=>trivial) ?_;rintro⟨⟩ -;refine Aa 1 [] (λ_=>Au [1] rfl<|Ag rfl ?_ ?_);refine Aa 2 [0] (y<|λ_=>Au [1] rfl<|Ag rfl ?_ Aj);refine Aa 2 [] (λb5=>λ_=>Au [2] rfl<|Ag rfl ?_ Aj);refine Da 0 0 rfl rfl CM rfl rfl rfl rfl rfl rfl rfl rfl (λ_ _=>rfl) oM oM λra2 rc2=>Aa 1 [] (λ_=>Au [2] rfl<|A2 1 [] (λ_=>Ag rfl ?_ Aj));exact Aa 2 [1] (y<|λ_=>Au [2] rfl<|Bk<|Aa 6 [] (aI ⟨oM,oM⟩<|λ_=>CX ((j+1,xs++tC (c0 bS) none 0,ra2,rc2)) (show ar-(j+1)<ar-j by omega) (show j+1≤ar by omega) lE (λw f hM=>⟨_,(hM.more (B':=[]) (F':=[λw f=>Be w f (NJ (j+1)) (xs++tC (c0 bS) none 0)]) nE (AE.mem ⟨Be.snoc (Ak.nil _ _ _ _) hM.f0,tQ⟩) (Ax.mem ⟨Be.mono,tQ⟩)).less (sD (sK (sK sZ))) sR nE (mR [0,2,3])⟩)));refine Ag rfl ?_ Aj;refine Aa 2 [] (λb6=>λ_=>Au [2] rfl<|Ag rfl ?_ Aj);refine Aa 2 [1] (y<|λ_=>Au [2] rfl<|Ag rfl ?_ Aj);refine Da 0 0 rfl rfl CM rfl rfl rfl rfl rfl rfl rfl rfl (λ_ _=>rfl) oM oM λra2 rc2=>Aa 1 [] (λ_=>Au [2] rfl<|A2 1 [] (λ_=>Ag rfl ?_ Aj));exact Aa 2 [1] (y<|λ_=>Au [2] rfl<|Bk<|Aa 6 [] (aI ⟨oM,oM⟩<|λ_=>CX ((j+1,xs++tC (c0 bS) none 0,ra2,rc2)) (show ar-(j+1)<ar-j by omega) (show j+1≤ar by omega) lE (λw f hM=>⟨_,(hM.more (B':=[]) (F':=[λw f=>Be w f (NJ (j+1)) (xs++tC (c0 bS) none 0)]) nE (AE.mem ⟨Be.snoc (Ak.nil _ _ _ _) hM.f0,tQ⟩) (Ax.mem ⟨Be.mono,tQ⟩)).less (sD (sK (sK sZ))) sR nE (mR [0,2,3])⟩)));refine Aa 3 [] (λ_=>ES<|Aa 2 [] (λ_=>?_));obtain rfl:j=ar:=by have:=of_decide_eq_false h2;omega
 refine NT (λw f=>Ak w f (NJ j) ra rc) Ak.mono (λw f hM=>Hc hM hM.f0)<|K2 (λw=>AI w A.cb [pB A.sb,.map (some A.km),.map (some A.dm),.map (some A.rm),iV 0] 84) (λw f h _=>h.blk) [0,1] Am (rd [0,1,2,3,4,5,6] (.br 7 .fin .fin)) rfl kR kR kR (λ_ _ _ _ _ h=>h)<|A2 3 [] (λ_=>Gn rfl rfl rfl (λw hK=>Ai rfl Og hK.2.2 rfl)<|A2 3 [1,0] (y<|y<|λ_=>Ag rfl ?_ Aj));exact rI (m:=⟨NJ j,c0 dt,[]⟩) (aa:=ra) (ac:=rc) (oa:=none) (oc:=0) (va:=none) (vc:=0) (i1:=0) hA hwi rfl rfl rfl rfl (by unfold ZV tC;simp only[KE];rfl) OK FD (M5 i hil _ hx) rfl rfl rfl<|Aa 1 [] (λ_=>AW [0,1] (λw f h _=>h.blk) rfl (λ_ h=>h)<|Bk<|Aa 6 [] (aI ⟨oM,oM⟩<|λ_=>CX (i+1) (show 8-(i+1)<8-i by omega) ⟨show i+1≤8 by omega,(by rw[Nc hx];exact hwi.addCons (M5 i hil _ hx) ⟨by rw[KE];dsimp only;omega,Na _,CH (R2 hx),Nat.zero_le _⟩)⟩ lE (λw f hM=>⟨_,by rw[Nc hx];exact hM.less (sD (sD sZ)) sR nE (mR [2,3])⟩)));refine Aa 3 [] (λ_=>ES<|Aa 3 [] (λ_=>?_));obtain rfl:i=8:=by have:=of_decide_eq_false h1;omega
 refine Aa 4 [] (λ_=>CW (v:=iV 0) rfl rfl (λw f hM=>Ai rfl Hq hM.res.blk rfl)<|Aa 3 [] (aI ⟨oM,oM⟩<|λ_=>uB (v:=0-1) hA rfl rfl rfl Hq<|Aa 10 [] (λ_=>Br rfl rfl (eC lV rfl rfl) (λw f hM=>Uc w f hM.vl hM.f1) (λx=>⟨Tr.mono,tQ⟩) ?_)));rintro⟨pa,pc⟩ -;refine Aa 5 [] (λ_=>?_);refine Fp (α:=Nat×Option Addr) (λx=>Cd.length-x.1) (λx=>x.1≤Cd.length) (λx=>(E5 2 (pB A.cb) 6 (.pointer x.2) 51 (.slice pa Cd.length pc) 52 (iV (Cd.length:Int)) 53 (iV (x.1:Int)))) (λx=>⟨λ_=>False,By A,As 84 163 A (⟨[],0,WO 8,[],[],0-1⟩:CS),w,f⟩) (λx=>[]) (λx=>[]) (λx=>[]) (λx=>[λw f=>Tr w f Cd pa pc,λw f=>AF w f (GN x.1) x.2]) (0,none) (Nat.zero_le _) lE (λw f hM=>hM.more (B':=[]) (F':=[λw f=>AF w f (GN 0) none]) nE (AE.mem ⟨rfl,tQ⟩) (Ax.mem ⟨AF.mono,tQ⟩) |>.less sR sR nE (mR [1,0])) ?_;rintro⟨i,ea⟩ hi;dsimp only at hi ⊢;refine Aa 6 [] (λ_=>AJ 54 rfl rfl (λh3=>?_) (λh3=>?_));refine Aa 6 [] (λ_=>?_);have hpl:Cd.length≤1000:=dC;have hil:i<Cd.length:=by have:=of_decide_eq_true h3;omega
 obtain⟨p,hx⟩:∃v,Cd[i]?=some v:=⟨_,List.getElem?_eq_getElem hil⟩;have hpb:p.2.2.bnd:=Mv p (List.mem_of_getElem? hx);refine KP (α:=Nat×Option Addr×Nat) (λx=>pa=some ⟨x.1,0,none⟩) (λx=>[⟨x.1,0+i*6,pC p x.2.1 x.2.2⟩]) (λx=>[λw f=>Ak w f p.2.2.kids x.2.1 x.2.2]) (λw f hM=>let ⟨_,b,xs,h1,h2,h3⟩:=hM.f0;let ⟨a,c,h4,h5⟩:=CI.get h3 h2 hx;⟨(b,a,c),h1,(λe he=>by cases he with|head=>exact h4|tail _ h=>cases h),AE.mem ⟨h5,tQ⟩⟩) (λx=>Ax.mem ⟨Ak.mono,tQ⟩) ?_;rintro⟨pb,qa,qc⟩ rfl;refine Aa 7 [100,0,0] (aI oM<|y2<|λb7=>y<|λ_=>?_);refine Nh (α:=Option Addr) (λx=>True) (λx=>(E5 2 (pB A.cb) 6 (.pointer x) 51 (.slice (some (⟨pb,0,none⟩:Addr)) Cd.length pc) 52 (iV (Cd.length:Int)) 53 (iV (i:Int)))) (λx=>⟨λ_=>False,By A,As 84 163 A (⟨[],0,WO 8,[],[],0-1⟩:CS),w,f⟩) (λx=>[]) (λx=>[]) (λx=>[]) (λx=>[λw f=>Tr w f Cd (some (⟨pb,0,none⟩:Addr)) pc,λw f=>AF w f (Pb p::GN i) x]) ?_ ?_;refine K2 (λw=>AI w A.cb [pB A.sb,.map (some A.km),.map (some A.dm),.map (some A.rm),iV (0-1)] 84) (λw f h _=>h.blk) [0] Am (rd [0,1,2,3,5,6,7,8,12,13,14,15,18] (.br 4 (.br 9 (.br 10 (.br 11 (.br 16 (.rd 17 (.rd 19 (.br 20 (.rd 21 .fin) .fin))) .fin) (.br 16 (.br 11 (.rd 17 (.rd 19 (.br 20 (.rd 21 .fin) .fin))) .fin) .fin)) (.br 16 (.br 10 (.br 11 (.rd 17 (.rd 19 (.br 20 (.rd 21 .fin) .fin))) .fin) .fin) .fin)) (.br 16 (.br 9 (.br 10 (.br 11 (.rd 17 (.rd 19 (.br 20 (.rd 21 .fin) .fin))) .fin) .fin) .fin) .fin)) (.br 9 (.br 4 (.br 10 (.br 11 (.br 16 (.rd 17 (.rd 19 (.br 20 (.rd 21 .fin) .fin))) .fin) (.br 16 (.br 11 (.rd 17 (.rd 19 (.br 20 (.rd 21 .fin) .fin))) .fin) .fin)) (.br 16 (.br 10 (.br 11 (.rd 17 (.rd 19 (.br 20 (.rd 21 .fin) .fin))) .fin) .fin) .fin)) (.br 10 (.br 4 (.br 11 (.br 16 (.rd 17 (.rd 19 (.br 20 (.rd 21 .fin) .fin))) .fin) (.br 16 (.br 11 (.rd 17 (.rd 19 (.br 20 (.rd 21 .fin) .fin))) .fin) .fin)) (.br 16 (.br 4 (.br 11 (.rd 17 (.rd 19 (.br 20 (.rd 21 .fin) .fin))) .fin) .fin) .fin)) (.br 16 (.br 4 (.br 10 (.br 11 (.rd 17 (.rd 19 (.br 20 (.rd 21 .fin) .fin))) .fin) .fin) (.br 10 (.br 4 (.br 11 (.rd 17 (.rd 19 (.br 20 (.rd 21 .fin) .fin))) .fin) .fin) .fin)) .fin))) (.br 16 (.br 4 (.br 9 (.br 10 (.br 11 (.rd 17 (.rd 19 (.br 20 (.rd 21 .fin) .fin))) .fin) .fin) .fin) (.br 9 (.br 4 (.br 10 (.br 11 (.rd 17 (.rd 19 (.br 20 (.rd 21 .fin) .fin))) .fin) .fin) (.br 10 (.br 4 (.br 11 (.rd 17 (.rd 19 (.br 20 (.rd 21 .fin) .fin))) .fin) .fin) .fin)) .fin)) .fin)))) rfl kR kR kR (λ_ _ _ _ _ h=>h)<|A2 7 [0,0] (y<|y<|λ_=>Gn rfl rfl rfl (λw hK=>(Ai rfl Hq hK.2.2 rfl:AG _ _ _ _ _ (iV (0-1)) _))<|A2 3 [] (λ_=>Gn rfl rfl rfl (λw hK=>(Ai rfl Hq hK.2.2 rfl:AG _ _ _ _ _ (iV (0-1)) _))<|A2 1 [] (λ_=>Ag rfl ?_ ?_)));refine Aa 2 [] (λb8=>λ_=>AW [1] (λw f h _=>h.blk) rfl (λ_ h=>h)<|Ag rfl ?_ ?_);refine Br rfl rfl (eC G1 rfl rfl) (λw f hM=>DB w f hM.vl (0-1)) (λx=>trivial) ?_;rintro⟨⟩ -;refine Aa 1 [] (λ_=>AW [1] (λw f h _=>h.blk) rfl (λ_ h=>h)<|Ag rfl ?_ ?_)
 refine Aa 2 [] (λb9=>λ_=>AW [2] (λw f h _=>h.blk) rfl (λ_ h=>h)<|Ag rfl ?_ ?_);refine CG 1 rfl rfl<|CG 0 rfl rfl<|Br (α:=Option Addr×Nat) rfl rfl (eC Df rfl rfl) (λw f hM=>B5 w f hM.vl [1] (some ⟨b8,0,none⟩) 1 (T1.var (0-1)).one (some ⟨b9,0,none⟩) 1 dC dC tQ ⟨Nat.le_refl _,.inr ⟨b8,0,rfl,hM.b1⟩⟩ (CQ (l:=[(.var (0-1),none,0)]) ⟨Ak.nil _ _ _ _,tQ⟩ hM.b0) p.2.2 qa qc hpb hM.f0) (λ_=>⟨Ak.mono,tQ⟩) ?_;rintro⟨wa,wc⟩ -;refine Aa 1 [] (λ_=>AW [0] (λw f h _=>h.blk) rfl (λ_ h=>.tail _ (.tail _ h))<|Ag rfl ?_ Aj);refine Aa 2 [] (λb10=>λ_=>AW [1] (λw f h _=>h.blk) rfl (λ_ h=>.tail _ (.tail _ h))<|A2 2 [] (λ_=>Ag rfl ?_ Aj));exact Aa 2 [] (λb11=>λ_=>AW [2] (λw f h _=>h.blk) rfl (λ_ h=>.tail _ (.tail _ h))<|A2 1 [] (λ_=>Bk<|CG 0 rfl rfl<|CG 0 rfl rfl<|HG (some ⟨b11,0,none⟩) tQ lE (λw f hM=>⟨f,(hM.more (B':=[]) (F':=[λw f=>AF w f (Pb p::GN i) (some ⟨b11,0,none⟩)]) nE (AE.mem ⟨⟨b11,wa,wc,some ⟨b10,0,none⟩,1,ea,rfl,hM.b1,hM.f0,⟨Nat.le_refl _,.inr ⟨b10,0,rfl,hM.b0⟩⟩,hM.f3⟩,tQ⟩) (Ax.mem ⟨AF.mono,tQ⟩)).less (sD sZ) sR nE (mR [3,0])⟩)));refine Ag rfl ?_ Aj;refine Aa 2 [] (λb12=>λ_=>AW [3] (λw f h _=>h.blk) rfl (λ_ h=>h)<|Ag rfl ?_ Aj);refine CG 2 rfl rfl<|CG 1 rfl rfl<|Br (α:=Option Addr×Nat) rfl rfl (eC Df rfl rfl) (λw f hM=>B5 w f hM.vl [1] (some ⟨b8,0,none⟩) 1 (T1.var (0-1)).one (some ⟨b9,0,none⟩) 1 dC dC tQ ⟨Nat.le_refl _,.inr ⟨b8,0,rfl,hM.b1⟩⟩ (CQ (l:=[(.var (0-1),none,0)]) ⟨Ak.nil _ _ _ _,tQ⟩ hM.b0) p.2.2 qa qc hpb hM.f0) (λ_=>⟨Ak.mono,tQ⟩) ?_;rintro⟨wa,wc⟩ -;refine Aa 1 [] (λ_=>AW [1] (λw f h _=>h.blk) rfl (λ_ h=>.tail _ (.tail _ h))<|A2 2 [] (λ_=>Ag rfl ?_ Aj));exact Aa 2 [] (λb13=>λ_=>AW [2] (λw f h _=>h.blk) rfl (λ_ h=>.tail _ (.tail _ h))<|A2 1 [] (λ_=>Bk<|CG 0 rfl rfl<|CG 0 rfl rfl<|HG (some ⟨b13,0,none⟩) tQ lE (λw f hM=>⟨f,(hM.more (B':=[]) (F':=[λw f=>AF w f (Pb p::GN i) (some ⟨b13,0,none⟩)]) nE (AE.mem ⟨⟨b13,wa,wc,some ⟨b12,0,none⟩,1,ea,rfl,hM.b1,hM.f0,⟨Nat.le_refl _,.inr ⟨b12,0,rfl,hM.b0⟩⟩,hM.f3⟩,tQ⟩) (Ax.mem ⟨AF.mono,tQ⟩)).less (sD sZ) sR nE (mR [3,0])⟩)));refine Ag rfl ?_ Aj;refine Aa 2 [] (λb14=>λ_=>AW [2] (λw f h _=>h.blk) rfl (λ_ h=>h)<|Ag rfl ?_ Aj);refine Aa 2 [] (λb15=>λ_=>AW [3] (λw f h _=>h.blk) rfl (λ_ h=>h)<|Ag rfl ?_ Aj);refine CG 2 rfl rfl<|CG 0 rfl rfl<|Br (α:=Option Addr×Nat) rfl rfl (eC Df rfl rfl) (λw f hM=>B5 w f hM.vl [1] (some ⟨b8,0,none⟩) 1 (T1.var (0-1)).one (some ⟨b15,0,none⟩) 1 dC dC tQ ⟨Nat.le_refl _,.inr ⟨b8,0,rfl,hM.b1⟩⟩ (CQ (l:=[(.var (0-1),none,0)]) ⟨Ak.nil _ _ _ _,tQ⟩ hM.b0) p.2.2 qa qc hpb hM.f0) (λ_=>⟨Ak.mono,tQ⟩) ?_;rintro⟨wa,wc⟩ -;refine Aa 1 [] (λ_=>AW [1] (λw f h _=>h.blk) rfl (λ_ h=>.tail _ (.tail _ h))<|A2 2 [] (λ_=>Ag rfl ?_ Aj))
 exact Aa 2 [] (λb16=>λ_=>AW [2] (λw f h _=>h.blk) rfl (λ_ h=>.tail _ (.tail _ h))<|A2 1 [] (λ_=>Bk<|CG 0 rfl rfl<|CG 0 rfl rfl<|HG (some ⟨b16,0,none⟩) tQ lE (λw f hM=>⟨f,(hM.more (B':=[]) (F':=[λw f=>AF w f (Pb p::GN i) (some ⟨b16,0,none⟩)]) nE (AE.mem ⟨⟨b16,wa,wc,some ⟨b14,0,none⟩,1,ea,rfl,hM.b1,hM.f0,⟨Nat.le_refl _,.inr ⟨b14,0,rfl,hM.b0⟩⟩,hM.f3⟩,tQ⟩) (Ax.mem ⟨AF.mono,tQ⟩)).less (sD sZ) sR nE (mR [3,0])⟩)));refine Ag rfl ?_ Aj;refine Aa 2 [] (λb17=>λ_=>AW [2] (λw f h _=>h.blk) rfl (λ_ h=>h)<|Ag rfl ?_ Aj);refine Br rfl rfl (eC G1 rfl rfl) (λw f hM=>DB w f hM.vl (0-1)) (λx=>trivial) ?_;rintro⟨⟩ -;refine Aa 1 [] (λ_=>AW [2] (λw f h _=>h.blk) rfl (λ_ h=>h)<|Ag rfl ?_ Aj);refine Aa 2 [] (λb18=>λ_=>AW [3] (λw f h _=>h.blk) rfl (λ_ h=>h)<|Ag rfl ?_ Aj);refine CG 2 rfl rfl<|CG 0 rfl rfl<|Br (α:=Option Addr×Nat) rfl rfl (eC Df rfl rfl) (λw f hM=>B5 w f hM.vl [1] (some ⟨b8,0,none⟩) 1 (T1.var (0-1)).one (some ⟨b18,0,none⟩) 1 dC dC tQ ⟨Nat.le_refl _,.inr ⟨b8,0,rfl,hM.b1⟩⟩ (CQ (l:=[(.var (0-1),none,0)]) ⟨Ak.nil _ _ _ _,tQ⟩ hM.b0) p.2.2 qa qc hpb hM.f0) (λ_=>⟨Ak.mono,tQ⟩) ?_;rintro⟨wa,wc⟩ -;refine Aa 1 [] (λ_=>AW [1] (λw f h _=>h.blk) rfl (λ_ h=>.tail _ (.tail _ h))<|A2 2 [] (λ_=>Ag rfl ?_ Aj));exact Aa 2 [] (λb19=>λ_=>AW [2] (λw f h _=>h.blk) rfl (λ_ h=>.tail _ (.tail _ h))<|A2 1 [] (λ_=>Bk<|CG 0 rfl rfl<|CG 0 rfl rfl<|HG (some ⟨b19,0,none⟩) tQ lE (λw f hM=>⟨f,(hM.more (B':=[]) (F':=[λw f=>AF w f (Pb p::GN i) (some ⟨b19,0,none⟩)]) nE (AE.mem ⟨⟨b19,wa,wc,some ⟨b17,0,none⟩,1,ea,rfl,hM.b1,hM.f0,⟨Nat.le_refl _,.inr ⟨b17,0,rfl,hM.b0⟩⟩,hM.f3⟩,tQ⟩) (Ax.mem ⟨AF.mono,tQ⟩)).less (sD sZ) sR nE (mR [3,0])⟩)));refine Ag rfl ?_ ?_;refine Br rfl rfl (eC G1 rfl rfl) (λw f hM=>DB w f hM.vl (0-1)) (λx=>trivial) ?_;rintro⟨⟩ -;refine Aa 1 [] (λ_=>AW [0] (λw f h _=>h.blk) rfl (λ_ h=>h)<|Ag rfl ?_ ?_);refine Aa 2 [] (λb20=>λ_=>AW [1] (λw f h _=>h.blk) rfl (λ_ h=>h)<|Ag rfl ?_ ?_);refine Aa 2 [] (λb21=>λ_=>AW [2] (λw f h _=>h.blk) rfl (λ_ h=>h)<|Ag rfl ?_ ?_);refine CG 1 rfl rfl<|CG 0 rfl rfl<|Br (α:=Option Addr×Nat) rfl rfl (eC Df rfl rfl) (λw f hM=>B5 w f hM.vl [1] (some ⟨b20,0,none⟩) 1 (T1.var (0-1)).one (some ⟨b21,0,none⟩) 1 dC dC tQ ⟨Nat.le_refl _,.inr ⟨b20,0,rfl,hM.b1⟩⟩ (CQ (l:=[(.var (0-1),none,0)]) ⟨Ak.nil _ _ _ _,tQ⟩ hM.b0) p.2.2 qa qc hpb hM.f0) (λ_=>⟨Ak.mono,tQ⟩) ?_;rintro⟨wa,wc⟩ -;refine Aa 1 [] (λ_=>AW [0] (λw f h _=>h.blk) rfl (λ_ h=>.tail _ (.tail _ h))<|Ag rfl ?_ Aj);refine Aa 2 [] (λb22=>λ_=>AW [1] (λw f h _=>h.blk) rfl (λ_ h=>.tail _ (.tail _ h))<|A2 2 [] (λ_=>Ag rfl ?_ Aj))
 exact Aa 2 [] (λb23=>λ_=>AW [2] (λw f h _=>h.blk) rfl (λ_ h=>.tail _ (.tail _ h))<|A2 1 [] (λ_=>Bk<|CG 0 rfl rfl<|CG 0 rfl rfl<|HG (some ⟨b23,0,none⟩) tQ lE (λw f hM=>⟨f,(hM.more (B':=[]) (F':=[λw f=>AF w f (Pb p::GN i) (some ⟨b23,0,none⟩)]) nE (AE.mem ⟨⟨b23,wa,wc,some ⟨b22,0,none⟩,1,ea,rfl,hM.b1,hM.f0,⟨Nat.le_refl _,.inr ⟨b22,0,rfl,hM.b0⟩⟩,hM.f3⟩,tQ⟩) (Ax.mem ⟨AF.mono,tQ⟩)).less (sD sZ) sR nE (mR [3,0])⟩)));refine Ag rfl ?_ Aj;refine Aa 2 [] (λb24=>λ_=>AW [3] (λw f h _=>h.blk) rfl (λ_ h=>h)<|Ag rfl ?_ Aj);refine CG 2 rfl rfl<|CG 1 rfl rfl<|Br (α:=Option Addr×Nat) rfl rfl (eC Df rfl rfl) (λw f hM=>B5 w f hM.vl [1] (some ⟨b20,0,none⟩) 1 (T1.var (0-1)).one (some ⟨b21,0,none⟩) 1 dC dC tQ ⟨Nat.le_refl _,.inr ⟨b20,0,rfl,hM.b1⟩⟩ (CQ (l:=[(.var (0-1),none,0)]) ⟨Ak.nil _ _ _ _,tQ⟩ hM.b0) p.2.2 qa qc hpb hM.f0) (λ_=>⟨Ak.mono,tQ⟩) ?_;rintro⟨wa,wc⟩ -;refine Aa 1 [] (λ_=>AW [1] (λw f h _=>h.blk) rfl (λ_ h=>.tail _ (.tail _ h))<|A2 2 [] (λ_=>Ag rfl ?_ Aj));exact Aa 2 [] (λb25=>λ_=>AW [2] (λw f h _=>h.blk) rfl (λ_ h=>.tail _ (.tail _ h))<|A2 1 [] (λ_=>Bk<|CG 0 rfl rfl<|CG 0 rfl rfl<|HG (some ⟨b25,0,none⟩) tQ lE (λw f hM=>⟨f,(hM.more (B':=[]) (F':=[λw f=>AF w f (Pb p::GN i) (some ⟨b25,0,none⟩)]) nE (AE.mem ⟨⟨b25,wa,wc,some ⟨b24,0,none⟩,1,ea,rfl,hM.b1,hM.f0,⟨Nat.le_refl _,.inr ⟨b24,0,rfl,hM.b0⟩⟩,hM.f3⟩,tQ⟩) (Ax.mem ⟨AF.mono,tQ⟩)).less (sD sZ) sR nE (mR [3,0])⟩)));refine Ag rfl ?_ Aj;refine Aa 2 [] (λb26=>λ_=>AW [2] (λw f h _=>h.blk) rfl (λ_ h=>h)<|Ag rfl ?_ Aj);refine Aa 2 [] (λb27=>λ_=>AW [3] (λw f h _=>h.blk) rfl (λ_ h=>h)<|Ag rfl ?_ Aj);refine CG 2 rfl rfl<|CG 0 rfl rfl<|Br (α:=Option Addr×Nat) rfl rfl (eC Df rfl rfl) (λw f hM=>B5 w f hM.vl [1] (some ⟨b20,0,none⟩) 1 (T1.var (0-1)).one (some ⟨b27,0,none⟩) 1 dC dC tQ ⟨Nat.le_refl _,.inr ⟨b20,0,rfl,hM.b1⟩⟩ (CQ (l:=[(.var (0-1),none,0)]) ⟨Ak.nil _ _ _ _,tQ⟩ hM.b0) p.2.2 qa qc hpb hM.f0) (λ_=>⟨Ak.mono,tQ⟩) ?_;rintro⟨wa,wc⟩ -;refine Aa 1 [] (λ_=>AW [1] (λw f h _=>h.blk) rfl (λ_ h=>.tail _ (.tail _ h))<|A2 2 [] (λ_=>Ag rfl ?_ Aj));exact Aa 2 [] (λb28=>λ_=>AW [2] (λw f h _=>h.blk) rfl (λ_ h=>.tail _ (.tail _ h))<|A2 1 [] (λ_=>Bk<|CG 0 rfl rfl<|CG 0 rfl rfl<|HG (some ⟨b28,0,none⟩) tQ lE (λw f hM=>⟨f,(hM.more (B':=[]) (F':=[λw f=>AF w f (Pb p::GN i) (some ⟨b28,0,none⟩)]) nE (AE.mem ⟨⟨b28,wa,wc,some ⟨b26,0,none⟩,1,ea,rfl,hM.b1,hM.f0,⟨Nat.le_refl _,.inr ⟨b26,0,rfl,hM.b0⟩⟩,hM.f3⟩,tQ⟩) (Ax.mem ⟨AF.mono,tQ⟩)).less (sD sZ) sR nE (mR [3,0])⟩)));refine Ag rfl ?_ ?_;refine Aa 2 [] (λb29=>λ_=>AW [1] (λw f h _=>h.blk) rfl (λ_ h=>h)<|Ag rfl ?_ ?_);refine Aa 2 [] (λb30=>λ_=>AW [2] (λw f h _=>h.blk) rfl (λ_ h=>h)<|Ag rfl ?_ ?_)
 refine CG 0 rfl rfl<|CG 0 rfl rfl<|Br (α:=Option Addr×Nat) rfl rfl (eC Df rfl rfl) (λw f hM=>B5 w f hM.vl [1] (some ⟨b30,0,none⟩) 1 (T1.var (0-1)).one (some ⟨b29,0,none⟩) 1 dC dC tQ ⟨Nat.le_refl _,.inr ⟨b30,0,rfl,hM.b1⟩⟩ (CQ (l:=[(.var (0-1),none,0)]) ⟨Ak.nil _ _ _ _,tQ⟩ hM.b0) p.2.2 qa qc hpb hM.f0) (λ_=>⟨Ak.mono,tQ⟩) ?_;rintro⟨wa,wc⟩ -;refine Aa 1 [] (λ_=>AW [0] (λw f h _=>h.blk) rfl (λ_ h=>.tail _ (.tail _ h))<|Ag rfl ?_ Aj);refine Aa 2 [] (λb31=>λ_=>AW [1] (λw f h _=>h.blk) rfl (λ_ h=>.tail _ (.tail _ h))<|A2 2 [] (λ_=>Ag rfl ?_ Aj));exact Aa 2 [] (λb32=>λ_=>AW [2] (λw f h _=>h.blk) rfl (λ_ h=>.tail _ (.tail _ h))<|A2 1 [] (λ_=>Bk<|CG 0 rfl rfl<|CG 0 rfl rfl<|HG (some ⟨b32,0,none⟩) tQ lE (λw f hM=>⟨f,(hM.more (B':=[]) (F':=[λw f=>AF w f (Pb p::GN i) (some ⟨b32,0,none⟩)]) nE (AE.mem ⟨⟨b32,wa,wc,some ⟨b31,0,none⟩,1,ea,rfl,hM.b1,hM.f0,⟨Nat.le_refl _,.inr ⟨b31,0,rfl,hM.b0⟩⟩,hM.f3⟩,tQ⟩) (Ax.mem ⟨AF.mono,tQ⟩)).less (sD sZ) sR nE (mR [3,0])⟩)));refine Ag rfl ?_ Aj;refine Aa 2 [] (λb33=>λ_=>AW [3] (λw f h _=>h.blk) rfl (λ_ h=>h)<|Ag rfl ?_ Aj);refine CG 1 rfl rfl<|CG 1 rfl rfl<|Br (α:=Option Addr×Nat) rfl rfl (eC Df rfl rfl) (λw f hM=>B5 w f hM.vl [1] (some ⟨b30,0,none⟩) 1 (T1.var (0-1)).one (some ⟨b29,0,none⟩) 1 dC dC tQ ⟨Nat.le_refl _,.inr ⟨b30,0,rfl,hM.b1⟩⟩ (CQ (l:=[(.var (0-1),none,0)]) ⟨Ak.nil _ _ _ _,tQ⟩ hM.b0) p.2.2 qa qc hpb hM.f0) (λ_=>⟨Ak.mono,tQ⟩) ?_;rintro⟨wa,wc⟩ -;refine Aa 1 [] (λ_=>AW [1] (λw f h _=>h.blk) rfl (λ_ h=>.tail _ (.tail _ h))<|A2 2 [] (λ_=>Ag rfl ?_ Aj));exact Aa 2 [] (λb34=>λ_=>AW [2] (λw f h _=>h.blk) rfl (λ_ h=>.tail _ (.tail _ h))<|A2 1 [] (λ_=>Bk<|CG 0 rfl rfl<|CG 0 rfl rfl<|HG (some ⟨b34,0,none⟩) tQ lE (λw f hM=>⟨f,(hM.more (B':=[]) (F':=[λw f=>AF w f (Pb p::GN i) (some ⟨b34,0,none⟩)]) nE (AE.mem ⟨⟨b34,wa,wc,some ⟨b33,0,none⟩,1,ea,rfl,hM.b1,hM.f0,⟨Nat.le_refl _,.inr ⟨b33,0,rfl,hM.b0⟩⟩,hM.f3⟩,tQ⟩) (Ax.mem ⟨AF.mono,tQ⟩)).less (sD sZ) sR nE (mR [3,0])⟩)));refine Ag rfl ?_ Aj;refine Aa 2 [] (λb35=>λ_=>AW [2] (λw f h _=>h.blk) rfl (λ_ h=>h)<|Ag rfl ?_ Aj);refine Aa 2 [] (λb36=>λ_=>AW [3] (λw f h _=>h.blk) rfl (λ_ h=>h)<|Ag rfl ?_ Aj);refine CG 0 rfl rfl<|CG 1 rfl rfl<|Br (α:=Option Addr×Nat) rfl rfl (eC Df rfl rfl) (λw f hM=>B5 w f hM.vl [1] (some ⟨b36,0,none⟩) 1 (T1.var (0-1)).one (some ⟨b29,0,none⟩) 1 dC dC tQ ⟨Nat.le_refl _,.inr ⟨b36,0,rfl,hM.b1⟩⟩ (CQ (l:=[(.var (0-1),none,0)]) ⟨Ak.nil _ _ _ _,tQ⟩ hM.b0) p.2.2 qa qc hpb hM.f0) (λ_=>⟨Ak.mono,tQ⟩) ?_;rintro⟨wa,wc⟩ -;refine Aa 1 [] (λ_=>AW [1] (λw f h _=>h.blk) rfl (λ_ h=>.tail _ (.tail _ h))<|A2 2 [] (λ_=>Ag rfl ?_ Aj))
 exact Aa 2 [] (λb37=>λ_=>AW [2] (λw f h _=>h.blk) rfl (λ_ h=>.tail _ (.tail _ h))<|A2 1 [] (λ_=>Bk<|CG 0 rfl rfl<|CG 0 rfl rfl<|HG (some ⟨b37,0,none⟩) tQ lE (λw f hM=>⟨f,(hM.more (B':=[]) (F':=[λw f=>AF w f (Pb p::GN i) (some ⟨b37,0,none⟩)]) nE (AE.mem ⟨⟨b37,wa,wc,some ⟨b35,0,none⟩,1,ea,rfl,hM.b1,hM.f0,⟨Nat.le_refl _,.inr ⟨b35,0,rfl,hM.b0⟩⟩,hM.f3⟩,tQ⟩) (Ax.mem ⟨AF.mono,tQ⟩)).less (sD sZ) sR nE (mR [3,0])⟩)));refine Ag rfl ?_ Aj;refine Aa 2 [] (λb38=>λ_=>AW [1] (λw f h _=>h.blk) rfl (λ_ h=>h)<|Ag rfl ?_ ?_);refine Aa 2 [] (λb39=>λ_=>AW [2] (λw f h _=>h.blk) rfl (λ_ h=>h)<|Ag rfl ?_ Aj);refine Aa 2 [] (λb40=>λ_=>AW [3] (λw f h _=>h.blk) rfl (λ_ h=>h)<|Ag rfl ?_ Aj);refine CG 1 rfl rfl<|CG 0 rfl rfl<|Br (α:=Option Addr×Nat) rfl rfl (eC Df rfl rfl) (λw f hM=>B5 w f hM.vl [1] (some ⟨b39,0,none⟩) 1 (T1.var (0-1)).one (some ⟨b40,0,none⟩) 1 dC dC tQ ⟨Nat.le_refl _,.inr ⟨b39,0,rfl,hM.b1⟩⟩ (CQ (l:=[(.var (0-1),none,0)]) ⟨Ak.nil _ _ _ _,tQ⟩ hM.b0) p.2.2 qa qc hpb hM.f0) (λ_=>⟨Ak.mono,tQ⟩) ?_;rintro⟨wa,wc⟩ -;refine Aa 1 [] (λ_=>AW [1] (λw f h _=>h.blk) rfl (λ_ h=>.tail _ (.tail _ h))<|A2 2 [] (λ_=>Ag rfl ?_ Aj));exact Aa 2 [] (λb41=>λ_=>AW [2] (λw f h _=>h.blk) rfl (λ_ h=>.tail _ (.tail _ h))<|A2 1 [] (λ_=>Bk<|CG 0 rfl rfl<|CG 0 rfl rfl<|HG (some ⟨b41,0,none⟩) tQ lE (λw f hM=>⟨f,(hM.more (B':=[]) (F':=[λw f=>AF w f (Pb p::GN i) (some ⟨b41,0,none⟩)]) nE (AE.mem ⟨⟨b41,wa,wc,some ⟨b38,0,none⟩,1,ea,rfl,hM.b1,hM.f0,⟨Nat.le_refl _,.inr ⟨b38,0,rfl,hM.b0⟩⟩,hM.f3⟩,tQ⟩) (Ax.mem ⟨AF.mono,tQ⟩)).less (sD sZ) sR nE (mR [3,0])⟩)));refine Ag rfl ?_ Aj;refine Aa 2 [] (λb42=>λ_=>AW [2] (λw f h _=>h.blk) rfl (λ_ h=>h)<|Ag rfl ?_ Aj);refine Aa 2 [] (λb43=>λ_=>AW [3] (λw f h _=>h.blk) rfl (λ_ h=>h)<|Ag rfl ?_ Aj);refine CG 0 rfl rfl<|CG 0 rfl rfl<|Br (α:=Option Addr×Nat) rfl rfl (eC Df rfl rfl) (λw f hM=>B5 w f hM.vl [1] (some ⟨b43,0,none⟩) 1 (T1.var (0-1)).one (some ⟨b42,0,none⟩) 1 dC dC tQ ⟨Nat.le_refl _,.inr ⟨b43,0,rfl,hM.b1⟩⟩ (CQ (l:=[(.var (0-1),none,0)]) ⟨Ak.nil _ _ _ _,tQ⟩ hM.b0) p.2.2 qa qc hpb hM.f0) (λ_=>⟨Ak.mono,tQ⟩) ?_;rintro⟨wa,wc⟩ -;refine Aa 1 [] (λ_=>AW [1] (λw f h _=>h.blk) rfl (λ_ h=>.tail _ (.tail _ h))<|A2 2 [] (λ_=>Ag rfl ?_ Aj));exact Aa 2 [] (λb44=>λ_=>AW [2] (λw f h _=>h.blk) rfl (λ_ h=>.tail _ (.tail _ h))<|A2 1 [] (λ_=>Bk<|CG 0 rfl rfl<|CG 0 rfl rfl<|HG (some ⟨b44,0,none⟩) tQ lE (λw f hM=>⟨f,(hM.more (B':=[]) (F':=[λw f=>AF w f (Pb p::GN i) (some ⟨b44,0,none⟩)]) nE (AE.mem ⟨⟨b44,wa,wc,some ⟨b38,0,none⟩,1,ea,rfl,hM.b1,hM.f0,⟨Nat.le_refl _,.inr ⟨b38,0,rfl,hM.b0⟩⟩,hM.f3⟩,tQ⟩) (Ax.mem ⟨AF.mono,tQ⟩)).less (sD sZ) sR nE (mR [3,0])⟩)));refine Ag rfl ?_ Aj;refine Aa 2 [] (λb45=>λ_=>AW [1] (λw f h _=>h.blk) rfl (λ_ h=>h)<|Ag rfl ?_ ?_);refine Aa 2 [] (λb46=>λ_=>AW [2] (λw f h _=>h.blk) rfl (λ_ h=>h)<|Ag rfl ?_ Aj)
 refine Br rfl rfl (eC G1 rfl rfl) (λw f hM=>DB w f hM.vl (0-1)) (λx=>trivial) ?_;rintro⟨⟩ -;refine Aa 1 [] (λ_=>AW [2] (λw f h _=>h.blk) rfl (λ_ h=>h)<|Ag rfl ?_ Aj);refine Aa 2 [] (λb47=>λ_=>AW [3] (λw f h _=>h.blk) rfl (λ_ h=>h)<|Ag rfl ?_ Aj);refine CG 1 rfl rfl<|CG 0 rfl rfl<|Br (α:=Option Addr×Nat) rfl rfl (eC Df rfl rfl) (λw f hM=>B5 w f hM.vl [1] (some ⟨b46,0,none⟩) 1 (T1.var (0-1)).one (some ⟨b47,0,none⟩) 1 dC dC tQ ⟨Nat.le_refl _,.inr ⟨b46,0,rfl,hM.b1⟩⟩ (CQ (l:=[(.var (0-1),none,0)]) ⟨Ak.nil _ _ _ _,tQ⟩ hM.b0) p.2.2 qa qc hpb hM.f0) (λ_=>⟨Ak.mono,tQ⟩) ?_;rintro⟨wa,wc⟩ -;refine Aa 1 [] (λ_=>AW [1] (λw f h _=>h.blk) rfl (λ_ h=>.tail _ (.tail _ h))<|A2 2 [] (λ_=>Ag rfl ?_ Aj));exact Aa 2 [] (λb48=>λ_=>AW [2] (λw f h _=>h.blk) rfl (λ_ h=>.tail _ (.tail _ h))<|A2 1 [] (λ_=>Bk<|CG 0 rfl rfl<|CG 0 rfl rfl<|HG (some ⟨b48,0,none⟩) tQ lE (λw f hM=>⟨f,(hM.more (B':=[]) (F':=[λw f=>AF w f (Pb p::GN i) (some ⟨b48,0,none⟩)]) nE (AE.mem ⟨⟨b48,wa,wc,some ⟨b45,0,none⟩,1,ea,rfl,hM.b1,hM.f0,⟨Nat.le_refl _,.inr ⟨b45,0,rfl,hM.b0⟩⟩,hM.f3⟩,tQ⟩) (Ax.mem ⟨AF.mono,tQ⟩)).less (sD sZ) sR nE (mR [3,0])⟩)));refine Ag rfl ?_ Aj;refine Br rfl rfl (eC G1 rfl rfl) (λw f hM=>DB w f hM.vl (0-1)) (λx=>trivial) ?_;rintro⟨⟩ -;refine Aa 1 [] (λ_=>AW [1] (λw f h _=>h.blk) rfl (λ_ h=>h)<|Ag rfl ?_ ?_);refine Aa 2 [] (λb49=>λ_=>AW [2] (λw f h _=>h.blk) rfl (λ_ h=>h)<|Ag rfl ?_ Aj);refine Aa 2 [] (λb50=>λ_=>AW [3] (λw f h _=>h.blk) rfl (λ_ h=>h)<|Ag rfl ?_ Aj);refine CG 1 rfl rfl<|CG 0 rfl rfl<|Br (α:=Option Addr×Nat) rfl rfl (eC Df rfl rfl) (λw f hM=>B5 w f hM.vl [1] (some ⟨b49,0,none⟩) 1 (T1.var (0-1)).one (some ⟨b50,0,none⟩) 1 dC dC tQ ⟨Nat.le_refl _,.inr ⟨b49,0,rfl,hM.b1⟩⟩ (CQ (l:=[(.var (0-1),none,0)]) ⟨Ak.nil _ _ _ _,tQ⟩ hM.b0) p.2.2 qa qc hpb hM.f0) (λ_=>⟨Ak.mono,tQ⟩) ?_;rintro⟨wa,wc⟩ -;refine Aa 1 [] (λ_=>AW [1] (λw f h _=>h.blk) rfl (λ_ h=>.tail _ (.tail _ h))<|A2 2 [] (λ_=>Ag rfl ?_ Aj));exact Aa 2 [] (λb51=>λ_=>AW [2] (λw f h _=>h.blk) rfl (λ_ h=>.tail _ (.tail _ h))<|A2 1 [] (λ_=>Bk<|CG 0 rfl rfl<|CG 0 rfl rfl<|HG (some ⟨b51,0,none⟩) tQ lE (λw f hM=>⟨f,(hM.more (B':=[]) (F':=[λw f=>AF w f (Pb p::GN i) (some ⟨b51,0,none⟩)]) nE (AE.mem ⟨⟨b51,wa,wc,some ⟨b45,0,none⟩,1,ea,rfl,hM.b1,hM.f0,⟨Nat.le_refl _,.inr ⟨b45,0,rfl,hM.b0⟩⟩,hM.f3⟩,tQ⟩) (Ax.mem ⟨AF.mono,tQ⟩)).less (sD sZ) sR nE (mR [3,0])⟩)));refine Ag rfl ?_ Aj;refine Aa 2 [] (λb52=>λ_=>AW [2] (λw f h _=>h.blk) rfl (λ_ h=>h)<|Ag rfl ?_ Aj);refine Aa 2 [] (λb53=>λ_=>AW [3] (λw f h _=>h.blk) rfl (λ_ h=>h)<|Ag rfl ?_ Aj)
 refine CG 0 rfl rfl<|CG 0 rfl rfl<|Br (α:=Option Addr×Nat) rfl rfl (eC Df rfl rfl) (λw f hM=>B5 w f hM.vl [1] (some ⟨b53,0,none⟩) 1 (T1.var (0-1)).one (some ⟨b52,0,none⟩) 1 dC dC tQ ⟨Nat.le_refl _,.inr ⟨b53,0,rfl,hM.b1⟩⟩ (CQ (l:=[(.var (0-1),none,0)]) ⟨Ak.nil _ _ _ _,tQ⟩ hM.b0) p.2.2 qa qc hpb hM.f0) (λ_=>⟨Ak.mono,tQ⟩) ?_;rintro⟨wa,wc⟩ -;refine Aa 1 [] (λ_=>AW [1] (λw f h _=>h.blk) rfl (λ_ h=>.tail _ (.tail _ h))<|A2 2 [] (λ_=>Ag rfl ?_ Aj));exact Aa 2 [] (λb54=>λ_=>AW [2] (λw f h _=>h.blk) rfl (λ_ h=>.tail _ (.tail _ h))<|A2 1 [] (λ_=>Bk<|CG 0 rfl rfl<|CG 0 rfl rfl<|HG (some ⟨b54,0,none⟩) tQ lE (λw f hM=>⟨f,(hM.more (B':=[]) (F':=[λw f=>AF w f (Pb p::GN i) (some ⟨b54,0,none⟩)]) nE (AE.mem ⟨⟨b54,wa,wc,some ⟨b45,0,none⟩,1,ea,rfl,hM.b1,hM.f0,⟨Nat.le_refl _,.inr ⟨b45,0,rfl,hM.b0⟩⟩,hM.f3⟩,tQ⟩) (Ax.mem ⟨AF.mono,tQ⟩)).less (sD sZ) sR nE (mR [3,0])⟩)));rintro ea2 -;dsimp only;exact Aa 6 [] (aI ⟨oM,oM⟩<|λ_=>CX ((i+1,ea2)) (show Cd.length-(i+1)<Cd.length-i by omega) (show i+1≤_ by omega) lE (λw f hM=>⟨_,by dsimp only;rw[W1 hx];exact hM⟩));refine Aa 3 [] (λ_=>ES<|Aa 11 [] (λ_=>?_));obtain rfl:i=Cd.length:=by have:=of_decide_eq_false h3;omega
 exact AL (λw f hM=>Cg rfl (Ah rfl) (Ah rfl)) (λw f hM=>⟨(A,ea),f,rfl,hA,hM.exm,(λb hb=>let ⟨h1,h2,h3⟩:=hM.mi b hb;h3.elim (λh=>.inr ⟨h,h1,h2⟩) .inl),hM.res,⟨QZ▸hM.f1,tQ⟩⟩)
theorem QD(w:World)(c2 c3 c4:Nat) :
  CallsD prog 21 [pB c2,pB c3,pB c4].toArray .returning w λr m w'=>∃x,r=.returned x∧m=.returning∧AS w w':=by
 refine Dj (R:=λw'=>AS w w') func21 rfl rfl rfl rfl Ml<|(?_:A3 prog _ (Fg prog _ (λ_ w'=>AS w w') λ_ _=>False) [] (X0 w (λ_=>0)) [] [] [] (.code _) [] _ []) w (λ_=>0) (BR (λ_ _=>rfl) tQ tQ);exact Aa 3 [] (λ_=>CW rfl rfl (λw f hM=>Qd PE rfl)<|Aa 7 [] (λ_=>dQ (λw f hM=>D1 rfl) (λw f hM=>hM.exm.stp.ext)))
theorem SN(w:World)(f:Fq)(hv:Vl w f)(c2 c3 c4:Nat)(v2 x3 y3 v4:Value)(hc2:AI w c2 [v2] 49)(hc3:AI w c3 [x3,y3] 27)(hc4:AI w c4 [v4] 28)(hf:f c2=0∧f c3=0∧f c4=0)(hn:c2≠c3∧c2≠c4∧c3≠c4)(er:Er) :
  CallsD prog 21 [pB c2,pB c3,pB c4].toArray (.panicking (trI 67 er)) w λr m w'=>∃x,r=.returned x∧m=.panicking [{v:=.iface 67 (.agg #[iV er.1,iV er.2.1,iV er.2.2]),recovered:=true}]∧(∃f',C2 (λb=>b=c2∨b=c3∨b=c4) w f w' f'∧AI w' c2 [.slice none 0 0] 49∧AI w' c3 [iV er.1,iV er.2.1] 27∧AI w' c4 [iV er.2.2] 28):=by
 refine Dj (R:=λw'=>∃f',C2 (λb=>b=c2∨b=c3∨b=c4) w f w' f'∧AI w' c2 [.slice none 0 0] 49∧AI w' c3 [iV er.1,iV er.2.1] 27∧AI w' c4 [iV er.2.2] 28) func21 rfl rfl rfl rfl Pc<|(?_:A3 prog _ (Fg prog _ (λ_ w'=>∃f',C2 (λb=>b=c2∨b=c3∨b=c4) w f w' f'∧AI w' c2 [.slice none 0 0] 49∧AI w' c3 [iV er.1,iV er.2.1] 27∧AI w' c4 [iV er.2.2] 28) λ_ _=>False) [] ⟨λb=>b=c2∨b=c3∨b=c4,λ_=>False,λ_ _=>True,w,f⟩ [] [] [] (.code _) [] _ [⟨c2,[v2],49,false⟩,⟨c3,[x3,y3],27,false⟩,⟨c4,[v4],28,false⟩]) w f (fQ hv hc2 hc3 hc4 hf hn);refine Aa 3 [] (λ_=>CW rfl rfl (λw f hM=>PN PE rfl)<|Aa 5 [] (λ_=>CW rfl rfl (λw f hM=>Sz rfl nB)<|Aa 11 [0] (λb1=>y<|λ_=>C3 [0] Am (rd [0,1,2,3] (.br 4 (.br 5 (.br 6 .fin .fin) .fin) .fin)) rfl kR<|A2 4 [0,0] (y<|y<|λ_=>Ag rfl ?_ Aj))));refine Aa 2 [1] (y<|λ_=>Au [0] rfl<|Ag rfl ?_ Aj);refine Aa 2 [2] (y<|λ_=>Au [0] rfl<|Ag rfl ?_ Aj);exact Aa 2 [3] (y<|λ_=>Au [0] rfl<|Bk<|Aa 1 [] (λ_=>dQ (λw f hM=>D1 rfl) (λw f hM=>⟨f,hM.exm,hM.blk _ jD,hM.blk _ Uy,hM.blk _ UL⟩)))
end Go.Proofs.YtelmolopaolbcaaGreatDoor
namespace Go.SP
open Go.SW Go.RowKit
def Nd.wft:Nd→Prop
 |.nil=>True
 |.cons op _ _ _ _ k r=>(op=41∨(op=43∧k.wfm 2)∨((op=44∨op=45∨op=46)∧k.wfm 3))∧r.wft
def Ff:List (lU×T1)→Ty
 | []=>.nil
 |b::l=>b.2.cons (Ff l)
theorem DL(b:lU×T1):∀l:List (lU×T1),Ff (l++[b])=(Ff l).snoc b.2
 | []=>by simp[Ff,Ty.snoc,Ty.app,T1.one]
 |c::l=>by
   simp only[List.cons_append,Ff,DL b l]
   cases c.2 <;> rfl
def bC:List (lU×lU)→List Value
 | []=>[]
 |b::l=>S b.1::S b.2::bC l
theorem bC_app:∀a b:List (lU×lU),bC (a++b)=bC a++bC b
 | [],_=>rfl
 |x::a,b=>by simp only[List.cons_append,bC,bC_app a b]
theorem Ys:∀a:List (lU×lU),(bC a).length=a.length*2
 | []=>rfl
 |x::a=>by simp only[bC,List.length_cons,Ys a];omega
abbrev S3(l:List (lU×T1)):List (lU×lU):=l.map λb=>(b.1,[])
section
variable{s s1:CS}{e e1:Ba}{op ln co nm:Int}{tx:lU}{k r:Nd}{out:List (lU×T1)}{er:Er}
theorem T5(h:Dp s e op ln co tx k=.ok (none,e1,s1)):DZ s e (.cons op ln co tx nm k r) out=DZ s1 e1 r out:=by rw[DZ,h]
theorem HL{b:lU×T1}(h:Dp s e op ln co tx k=.ok (some b,e1,s1)):DZ s e (.cons op ln co tx nm k r) out=DZ s1 e1 r (out++[b]):=by rw[DZ,h]
theorem Dz(h:Dp s e op ln co tx k=.error er):DZ s e (.cons op ln co tx nm k r) out=.error er:=by rw[DZ,h]
end
structure tA(Rl:CS→CS→Prop):Prop where
 refl:∀s,Rl s s
 trans:∀{s t u},Rl s t→Rl t u→Rl s u
 fresh:∀s,Rl s (A7 s).2
 has:∀{s a b ln co s'},EO s a b ln co=.ok s'→Rl s s'
section
variable{Rl:CS→CS→Prop}(hR:tA Rl)
include hR
theorem Nx:∀(l:List Int)(s:CS),Rl s (Bp l s).2
 | [],s=>hR.refl s
 |_::l,s=>hR.trans (hR.fresh s) (Nx l _)
variable {s s':CS}{co ln:Int}{n:Nat}{k:Nd}
theorem Rw{tx:lU}{k:Nat}{a:Ty}{o:T1}(h:Ij s tx k ln co=.ok (a,o,s')):Rl s s':=by
 unfold Ij at h
 split at h
 · cases h
 · split at h
   · cases h
     exact Nx hR _ _
   · cases h
theorem Xj{e:Ba}{tx:lU}{t:T1}(h:Hf s e tx ln co=.ok (t,s')):Rl s s':=by
 unfold Hf at h
 split at h
 · cases h
 · split at h
   · cases h
   · cases h
     exact Nx hR _ _
def pK(Rl:CS→CS→Prop)(p:LF):Prop:=∀{s e op ln co tx nm k t s'},p s e op ln co tx nm k=.ok (t,s')→Rl s s'
def rD(Rl:CS→CS→Prop)(p:N2):Prop:=∀{s e op ln co tx nm k t e' s'},p s e op ln co tx nm k=.ok (t,e',s')→Rl s s'
variable{p:LF}(hp:pK Rl p)
include hp
theorem MO{e:Ba}:∀(k:Nd){s s':CS}{l:Ty},Ec p e s k=.ok (l,s')→Rl s s'
 |.nil,_,_,_,h=>by cases h;exact hR.refl _
 |.cons op ln co tx nm k r,s,s',l,h=>by
   unfold Ec at h
   split at h
   · cases h
   · rename_i h1
     split at h
     · cases h
     · rename_i h2
       cases h
       exact hR.trans (hp h1) (MO r h2)
theorem Qw{e:Ba}:∀(k:Nd){s s':CS}{l:Ty},FY p e s l k=.ok s'→Rl s s'
 |.nil,_,_,_,h=>by cases h;exact hR.refl _
 |.cons op ln co tx nm k r,s,s',l,h=>by
   unfold FY at h
   split at h
   · cases h
   · rename_i h1
     split at h
     · cases h
     · rename_i h2
       exact hR.trans (hp h1) (hR.trans (hR.has h2) (Qw r h))
theorem UZ{e:Ba}:∀(k:Nd){s s':CS}{t t':T1},J4 p e s t k=.ok (t',s')→Rl s s'
 |.nil,_,_,_,_,h=>by cases h;exact hR.refl _
 |.cons op ln co tx nm k r,s,s',t,t',h=>by
   unfold J4 at h
   split at h
   · cases h
   · rename_i h1
     split at h
     · cases h
     · rename_i h2
       exact hR.trans (hp h1) (hR.trans (hR.fresh _) (hR.trans (hR.has h2) (UZ r h)))
theorem PR{e:Ba}{o l c m:Int}{tx x:lU}{t:T1}(h:GW p s e ln co tx o l c x m k=.ok (t,s')):Rl s s':=by
 unfold GW at h
 split at h
 · cases h
 · rename_i h1
   split at h
   · cases h
   · rename_i h2
     cases h
     exact hR.trans (hR.fresh _) (hR.trans (hp h1) (hR.has h2))
omit hp
theorem RG:∀(k:Nd){s:CS}{e:Ba},Rl s (Fa s e k).2.2
 |.nil,_,_=>hR.refl _
 |.cons _ _ _ _ _ _ .nil,_,_=>hR.refl _
 |.cons _ _ _ _ _ _ (.cons o l c x m k r),_,_=>hR.trans (hR.fresh _) (RG (.cons o l c x m k r))
variable{q:N2}(hq:rD Rl q)
include hq
theorem Oj:∀(k:Nd){s s':CS}{e e':Ba}{l:Ty},Ga q s e l k=.ok (e',s')→Rl s s'
 |.nil,_,_,_,_,_,h=>by cases h;exact hR.refl _
 |.cons op ln co tx nm k r,s,s',e,e',l,h=>by
   unfold Ga at h
   split at h
   · cases h
   · rename_i h1
     split at h
     · cases h
     · rename_i h2
       exact hR.trans (hq h1) (hR.trans (hR.has h2) (Oj r h))
theorem Ob:∀(k:Nd){s s':CS}{e e':Ba}{l:Ty},EZ q s e k=.ok (l,e',s')→Rl s s'
 |.nil,_,_,_,_,_,h=>by cases h;exact hR.refl _
 |.cons op ln co tx nm k r,s,s',e,e',l,h=>by
   unfold EZ at h
   split at h
   · cases h
   · rename_i h1
     split at h
     · cases h
     · rename_i h2
       cases h
       exact hR.trans (hq h1) (Ob r h2)
theorem Zy{e e':Ba}{op:Int}{tx:lU}{t:T1}(h:CR q s e op ln co tx k=.ok (t,e',s')):Rl s s':=by
 unfold CR at h
 repeat' (split at h)
 all_goals first|(cases h;first|exact hR.refl _|exact hR.fresh _|exact hR.trans (Rw hR (by assumption)) (Oj hR hq _ (by assumption))|exact Ob hR hq _ (by assumption))|cases h
omit hq
theorem Vf:∀n,rD Rl (Cp n)
 |0=>λh=>by cases h
 |n+1=>λh=>by
   unfold Cp at h
   split at h
   · cases h
   · rename_i h1
     split at h
     · cases h
     · cases h
       exact Zy hR (Vf n) h1
include hp
theorem Ke{e:Ba}{pt:T1}:∀(k:Nd){s s':CS}{t:Option T1}{u:T1},Dx n p e pt s t k=.ok (u,s')→Rl s s'
 |.nil,_,_,_,_,h=>by unfold Dx at h;cases h;exact hR.refl _
 |.cons _ _ _ _ _ ks r,s,s',t,u,h=>by
   unfold Dx at h
   split at h
   · split at h
     · cases h
     · rename_i h1
       split at h
       · cases h
       · rename_i h2
         split at h
         · cases h
         · rename_i h3
           refine hR.trans (Vf hR _ h1) (hR.trans (hR.has h2) (hR.trans (hp h3) ?_))
           split at h
           · split at h
             · cases h
             · rename_i h4
               exact hR.trans (hR.has h4) (Ke r h)
           · exact Ke r h
   · cases h
     exact hR.refl _
theorem Zw{e:Ba}{op:Int}{tx:lU}{t:T1}(h:Bi n p s e op ln co tx k=.ok (t,s')):Rl s s':=by
 have tr:=@tA.trans _ hR;have hs:=@tA.has _ hR;unfold Bi at h
 by_cases o1:(op==1)=true
 · rw[if_pos o1] at h
   cases h;exact hR.refl _
 rw[if_neg o1] at h
 by_cases o2:(op==2)=true
 · rw[if_pos o2] at h
   cases h;exact hR.refl _
 rw[if_neg o2] at h
 by_cases o3:(op==3)=true
 · rw[if_pos o3] at h
   cases h;exact hR.refl _
 rw[if_neg o3] at h
 by_cases o4:(op==4)=true
 · rw[if_pos o4] at h
   cases h;exact hR.refl _
 rw[if_neg o4] at h
 by_cases o5:(op==5)=true
 · rw[if_pos o5] at h
   exact Xj hR h
 rw[if_neg o5] at h
 by_cases o6:(op==6)=true
 · rw[if_pos o6] at h
   split at h
   · cases h
   rename_i h1
   split at h
   · cases h
   rename_i h2
   cases h
   exact tr (Rw hR h1) (Qw hR hp _ h2)
 rw[if_neg o6] at h
 by_cases o7:(op==7)=true
 · rw[if_pos o7] at h
   split at h
   · cases h
     exact hR.refl _
   simp only at h
   split at h
   · cases h
   rename_i h1
   cases h
   exact tr (RG hR _) (hp h1)
 rw[if_neg o7] at h
 by_cases o8:(op==8)=true
 · rw[if_pos o8] at h
   split at h
   · cases h
     exact hR.refl _
   split at h
   · cases h
   rename_i h1;exact tr (hp h1) (UZ hR hp _ h)
 rw[if_neg o8] at h
 by_cases o9:(op==9)=true
 · rw[if_pos o9] at h
   split at h
   · split at h
     · cases h
     rename_i h1
     split at h
     · cases h
     exact tr (hp h1) (hp h)
   · cases h
     exact hR.refl _
 rw[if_neg o9] at h
 by_cases o10:(op==10)=true
 · rw[if_pos o10] at h
   split at h
   · split at h
     · cases h
     rename_i h1
     split at h
     · cases h
     exact tr (PR hR hp h1) (hp h)
   · cases h
     exact hR.refl _
 rw[if_neg o10] at h
 by_cases o11:(op==11)=true
 · rw[if_pos o11] at h
   split at h
   · split at h
     · cases h
     rename_i h1
     split at h
     · cases h
     rename_i h2
     split at h
     · cases h
     rename_i h3
     split at h
     · cases h
     rename_i h4
     split at h
     · cases h
     rename_i h5
     cases h
     exact tr (hp h1) (tr (hs h2) (tr (hp h3) (tr (hp h4) (hs h5))))
   · cases h
     exact hR.refl _
 rw[if_neg o11] at h
 by_cases o12:(op==12)=true
 · rw[if_pos o12] at h
   split at h
   · cases h
   rename_i h1
   cases h
   exact MO hR hp _ h1
 rw[if_neg o12] at h
 by_cases o13:(op==13)=true
 · rw[if_pos o13] at h
   split at h
   · cases h
   rename_i h1
   cases h
   exact MO hR hp _ h1
 rw[if_neg o13] at h
 by_cases o14:(op==14)=true
 · rw[if_pos o14] at h
   split at h
   · cases h
     exact hR.refl _
   split at h
   · cases h
   rename_i h1;exact tr (hp h1) (Ke hR hp _ h)
 rw[if_neg o14] at h
 by_cases o15:(op==15)=true
 · rw[if_pos o15] at h
   split at h
   · cases h
     exact hR.refl _
   split at h
   · cases h
   rename_i h1;exact tr (hp h1) (Ke hR hp _ h)
 rw[if_neg o15] at h
 by_cases o16:(op==16)=true
 · rw[if_pos o16] at h
   split at h
   · cases h
     exact hR.refl _
   split at h
   · cases h
   rename_i h1
   split at h
   · cases h
   rename_i h2
   cases h
   exact tr (hp h1) (tr (hs h2) (hR.fresh _))
 rw[if_neg o16] at h
 split at h
 · cases h
   exact hR.refl _
 exact hp h
omit hp
theorem Gi:∀n,pK Rl (Cc n)
 |0=>λh=>by cases h
 |n+1=>λh=>by
   unfold Cc at h
   split at h
   · cases h
   · rename_i h1
     split at h
     · cases h
     · cases h
       exact Zw hR (Gi n) h1
end
def wE(s s':CS):Prop:=s'.cons=s.cons∧s'.datas=s.datas∧s'.roots=s.roots∧s'.vars=s.vars
variable {s s':CS}{co ln:Int}
theorem dX{a b:T1}(h:EO s a b ln co=.ok s'):∃m,FW s.sol a b=.ok m∧s'={s with sol:=m}:=by
 unfold EO at h
 split at h
 · cases h
 · cases h
   exact⟨_,by assumption,rfl⟩
theorem Ee:tA wE where
 refl _:=⟨rfl,rfl,rfl,rfl⟩
 trans h1 h2:=⟨h2.1.trans h1.1,h2.2.1.trans h1.2.1,h2.2.2.1.trans h1.2.2.1,h2.2.2.2.trans h1.2.2.2⟩
 fresh _:=⟨rfl,rfl,rfl,rfl⟩
 has h:=by obtain⟨m,-,rfl⟩:=dX h;exact⟨rfl,rfl,rfl,rfl⟩
section
variable{s s1 s2:CS}{e e1:Ba}{op ln co nm o l c m o2 l2 c2 m2:Int}{tx x x2:lU}{kids k r k2 r2:Nd}{t q:T1}{er:Er}
theorem VJ(h:(op==41)=true)(hd:GP s ln co tx kids=.ok s1):Dp s e op ln co tx kids=.ok (none,e,s1):=by unfold Dp;rw[if_pos h,hd]
theorem Tl(h:(op==41)=true)(hd:GP s ln co tx kids=.error er):Dp s e op ln co tx kids=.error er:=by unfold Dp;rw[if_pos h,hd]
theorem WW(h:(op==44)=true)(hx:Cc (k.size+1) s e o l c x m k=.ok (t,s1))(hw:GJ s1 e tx t (Cq (k.size+1) o k) ln co=.ok e1):Dp s e op ln co tx (.cons o l c x m k r)=.ok (some (tx,t),e1,s1):=by
 obtain rfl:=beq_iff_eq.1 h;unfold Dp;rw[if_neg (by decide)];simp only;rw[if_neg (by decide),if_pos (by decide),hx];simp only;rw[hw]
theorem Wg(h:(op==44)=true)(hx:Cc (k.size+1) s e o l c x m k=.error er):Dp s e op ln co tx (.cons o l c x m k r)=.error er:=by
 obtain rfl:=beq_iff_eq.1 h;unfold Dp;rw[if_neg (by decide)];simp only;rw[if_neg (by decide),if_pos (by decide),hx]
theorem Wb(h:(op==44)=true)(hx:Cc (k.size+1) s e o l c x m k=.ok (t,s1))(hw:GJ s1 e tx t (Cq (k.size+1) o k) ln co=.error er):Dp s e op ln co tx (.cons o l c x m k r)=.error er:=by
 obtain rfl:=beq_iff_eq.1 h;unfold Dp;rw[if_neg (by decide)];simp only;rw[if_neg (by decide),if_pos (by decide),hx];simp only;rw[hw]
theorem Zk(h:(op==45)=true)(hx:GW (Cc (k.size+1)) s e ln co tx o l c x m k=.ok (t,s1))(hw:GJ s1 e tx t true ln co=.ok e1):Dp s e op ln co tx (.cons o l c x m k r)=.ok (some (tx,t),e1,s1):=by
 obtain rfl:=beq_iff_eq.1 h;unfold Dp;rw[if_neg (by decide)];simp only;rw[if_neg (by decide),if_neg (by decide),if_pos (by decide),hx];simp only;rw[hw]
theorem VP(h:(op==45)=true)(hx:GW (Cc (k.size+1)) s e ln co tx o l c x m k=.error er):Dp s e op ln co tx (.cons o l c x m k r)=.error er:=by
 obtain rfl:=beq_iff_eq.1 h;unfold Dp;rw[if_neg (by decide)];simp only;rw[if_neg (by decide),if_neg (by decide),if_pos (by decide),hx]
theorem Wp(h:(op==45)=true)(hx:GW (Cc (k.size+1)) s e ln co tx o l c x m k=.ok (t,s1))(hw:GJ s1 e tx t true ln co=.error er):Dp s e op ln co tx (.cons o l c x m k r)=.error er:=by
 obtain rfl:=beq_iff_eq.1 h;unfold Dp;rw[if_neg (by decide)];simp only;rw[if_neg (by decide),if_neg (by decide),if_pos (by decide),hx];simp only;rw[hw]
theorem bV(h:(op==46)=true)(hx:Cc (k.size+1) s e o l c x m k=.ok (t,s1)):Dp s e op ln co tx (.cons o l c x m k r)=.ok (some ([],t),e,s1):=by
 obtain rfl:=beq_iff_eq.1 h;unfold Dp;rw[if_neg (by decide)];simp only;rw[if_neg (by decide),if_neg (by decide),if_neg (by decide),hx]
theorem Yi(h:(op==46)=true)(hx:Cc (k.size+1) s e o l c x m k=.error er):Dp s e op ln co tx (.cons o l c x m k r)=.error er:=by
 obtain rfl:=beq_iff_eq.1 h;unfold Dp;rw[if_neg (by decide)];simp only;rw[if_neg (by decide),if_neg (by decide),if_neg (by decide),hx]
theorem My(h:CE s.datas [] o l c x k=.ok q):FJ s.datas [] (.cons o l c x m k .nil)=.ok q.one:=by
 rw[Jo,h];simp only[FJ];cases q <;> rfl
theorem TI(h:(op==43)=true)(hr:s.roots.contains tx=true):Dp s e op ln co tx (.cons o l c x m k r)=.error (ln,co,11):=by
 obtain rfl:=beq_iff_eq.1 h;unfold Dp;rw[if_neg (by decide)];simp only;rw[if_pos (by decide),if_pos hr]
theorem S4(h:(op==43)=true)(hr:s.roots.contains tx=false)(ht:CE s.datas [] o l c x k=.error er):Dp s e op ln co tx (.cons o l c x m k r)=.error er:=by
 obtain rfl:=beq_iff_eq.1 h;unfold Dp;rw[if_neg (by decide)];simp only;rw[if_pos (by decide),if_neg (by rw[hr];decide),IS ht]
theorem TO(h:(op==43)=true)(hr:s.roots.contains tx=false)(ht:CE s.datas [] o l c x k=.ok q)(hx:Cc (k2.size+1) {s with roots:=tx::s.roots} e o2 l2 c2 x2 m2 k2=.error er):Dp s e op ln co tx (.cons o l c x m k (.cons o2 l2 c2 x2 m2 k2 r2))=.error er:=by
 obtain rfl:=beq_iff_eq.1 h;unfold Dp;rw[if_neg (by decide)];simp only;rw[if_pos (by decide),if_neg (by rw[hr];decide),My ht];simp only;rw[hx]
theorem Us(h:(op==43)=true)(hr:s.roots.contains tx=false)(ht:CE s.datas [] o l c x k=.ok q)(hx:Cc (k2.size+1) {s with roots:=tx::s.roots} e o2 l2 c2 x2 m2 k2=.ok (t,s1))(hh:EO s1 q t ln co=.error er):Dp s e op ln co tx (.cons o l c x m k (.cons o2 l2 c2 x2 m2 k2 r2))=.error er:=by
 obtain rfl:=beq_iff_eq.1 h;unfold Dp;rw[if_neg (by decide)];simp only;rw[if_pos (by decide),if_neg (by rw[hr];decide),My ht];simp only;rw[hx];simp only;rw[show q.one.hd=q by cases q <;> rfl,hh]
theorem Vx(h:(op==43)=true)(hr:s.roots.contains tx=false)(ht:CE s.datas [] o l c x k=.ok q)(hx:Cc (k2.size+1) {s with roots:=tx::s.roots} e o2 l2 c2 x2 m2 k2=.ok (t,s1))(hh:EO s1 q t ln co=.ok s2) :
   Dp s e op ln co tx (.cons o l c x m k (.cons o2 l2 c2 x2 m2 k2 r2))=.ok (some (tx,.con CU q.one),⟨tx,.con CU q.one,[]⟩::e,s2):=by
 obtain rfl:=beq_iff_eq.1 h;unfold Dp;rw[if_neg (by decide)];simp only;rw[if_pos (by decide),if_neg (by rw[hr];decide),My ht];simp only;rw[hx];simp only;rw[show q.one.hd=q by cases q <;> rfl,hh]
end
def JC(w:World)(f:Fq)(l:List (lU×lU))(a:Option Addr)(c:Nat):Prop:=l.length≤c∧(l=[]∨∃b off,a=some ⟨b,off,none⟩∧Cs w f b off (bC l))
variable {X:Cx}{f:Fq}{Fs:List (World→Fq→Prop)}{B:List FB}{H:List HB}{a:Option Addr}{T:TypeId}{w:World}
theorem JC.mono{l:List (lU×lU)}{c:Nat}:Fc (λw f=>JC w f l a c):=λ_ _ _ _ h hF=>⟨h.1,h.2.imp id λ⟨b,off,h1,h2⟩=>⟨b,off,h1,h2.mono hF⟩⟩
def VG(nds:Nd)(w:World)(f:Fq)(v:Value)(w':World):Prop:=∃f',C2 (λ_=>False) w f w' f' ∧
 match C7 nds with
 |.error er=>v=.tuple #[.slice none 0 0,.agg #[.int .i64 er.1,.int .i64 er.2.1],.int .i64 er.2.2]
 |.ok bs=>∃a c,v=.tuple #[.slice a bs.length c,.agg #[.int .i64 0,.int .i64 0],.int .i64 0]∧JC w' f' bs a c
def PL(l:List (lU×lU))(r:List (lU×T1)):List (lU×lU):=l++S3 r
theorem Wf{s:CS}{n:lU}{t f:T1}{r:List (lU×T1)}{d:List (lU×lU)}(h:GD s t 0 0=.ok f) :
   (match JY s ((n,t)::r) with|.error x=>.error x|.ok l=>.ok (d++l):RI (List (lU×lU)))=(match JY s r with|.error x=>.error x|.ok l=>.ok ((d++[(n,OP f)])++l)):=by
 rw[JY,h];simp only
 cases JY s r with
 |error x=>rfl
 |ok z=>simp
theorem TZ{s:CS}{r:List (lU×T1)}:JY s r=(match JY s r with|.error x=>.error x|.ok l=>.ok ([]++l)):=by
 cases JY s r <;> rfl
theorem Yz{s:CS}{n:lU}{t:T1}{r:List (lU×T1)}{er:Er}(h:GD s t 0 0=.error er):JY s ((n,t)::r)=.error er:=by rw[JY,h]
theorem VB{d:List (lU×lU)}{n y:lU}{t:T1}{r:List (lU×T1)}:DV (bC (PL d ((n,t)::r))) (d.length*2+1) [S y]=bC (PL (d++[(n,y)]) r):=by
 unfold PL;rw[bC_app,bC_app,bC_app];have hl:=Ys d;rw[← hl];generalize bC d=D;simp[DV,S3,bC,List.set_append_right]
theorem Re{a:lU}:∀l:List lU,(Em (l.map λk=>(k,Value.bool true)) a).getD (.bool false)=.bool (l.contains a)
 | []=>rfl
 |b::l=>by
   simp only[List.map_cons,Em,List.contains_cons]
   by_cases h:a=b
   · subst h;simp
   · rw[show (a==b)=false from beq_eq_false_iff_ne.2 h]
     simpa using Re l
theorem D0.addRoot{s:CS}(h:D0 s){a:lU}(hn:s.roots.contains a=false):D0 {s with roots:=a::s.roots} :=
 {h with
   dr:=⟨by
     have:∀l:List lU,l.contains a=false→Em (l.map λk=>(k,Value.bool true)) a=none:=by
       intro l
       induction l with
       |nil=>intro _;rfl
       |cons b l ih =>
         intro hc;rw[List.contains_cons,Bool.or_eq_false_iff] at hc;simp only[List.map_cons,Em];rw[hc.1];simpa using ih hc.2
     exact this _ hn,h.dr⟩}
theorem F5{nds:Nd}{er:Er}(h:DZ ZS Pa nds []=.error er):C7 nds=.error er:=by rw[C7,h]
theorem lC{nds:Nd}{out:List (lU×T1)}{s:CS}(h:DZ ZS Pa nds []=.ok (out,s)):C7 nds=JY s out:=by rw[C7,h]
theorem ZO{R:List RB}{c:Nat}{l:List (lU×lU)}(hM:AO X w f H (⟨T,2,a,c,l.length,bC l⟩::R) B Fs):∃f',AO X w f' H R B Fs∧JC w f' l a c:=by
 have hr:=hM.row _ (.head _);rcases hr.2 with ⟨_,_,hz⟩|⟨b,q,ha,hb,hmc,_,hq,ht⟩
 · simp only at hz
   exact⟨f,hM.less (List.Sublist.refl _) (List.sublist_cons_self _ _) (λ_ h=>h) (λ_ h=>h),oM,.inl (by cases l with|nil=>rfl|cons _ _=>simp at hz)⟩
 · simp only at ha
   subst ha;obtain⟨f',hM'⟩:=hM.done (i:=0) rfl rfl;refine⟨f',hM'.less (List.Sublist.refl _) (List.Sublist.refl _) (λ_ h=>.tail _ h) (λ_ h=>h),hmc,.inr ⟨b,0,rfl,hM'.fro _ (.head _)⟩⟩
end Go.SP
namespace Go.Proofs.YtelmolopaolbcaaGreatDoor
open Go.SW Go.SP Go.RowKit Go.Proofs.Tryz
theorem Zq:∀i,i≤8→D0 (⟨[],0,WO i,[],[],-1⟩:CS)
 |0,_=>⟨tQ,λ_ _ h=>(by cases h),tQ,tQ,tQ,Int.le_refl _⟩
 |i+1,h=>by
  obtain⟨⟨nm,dt,nu,ar⟩,hx⟩:∃v,HC[i]?=some v:=⟨_,List.getElem?_eq_getElem (l:=HC) (by have:HC.length=8:=rfl;omega)⟩;have har:=Rp hx;rw[Nc hx];exact (Zq i oM).addCons (M5 i oM _ hx) ⟨by rw[KE];dsimp only;omega,Na _,CH (R2 hx),Nat.zero_le _⟩
theorem uG:D0 ZS:=Zq 8 (Nat.le_refl _)
theorem sJ:F8 Pa:=by
 rw[← QZ];intro b hb;unfold GN at hb;rw[List.take_length,List.mem_reverse] at hb;obtain⟨p,hp,rfl⟩:=List.mem_map.1 hb;exact⟨I8 (Gj (Bv _)) (Mv p hp),by dsimp only[Pb];decide⟩
theorem VT(w:World)(f:Fq)(hv:Vl w f)(tx:lU)(t:T1)(b:Nat)(hT:Ak w f t.one (some ⟨b,0,none⟩) 1) :
  Bo prog 28 #[S tx,.slice (some ⟨b,0,none⟩) 1 1] w (Bw (α:=Option Addr×Nat) (λx=>tV (.con tx t.one) x.1 x.2) (λ_=>True) (λx=>[λw f=>Ak w f t.one x.1 x.2]) w f):=by
 have hl:t.one.len=1:=by cases t <;> rfl
 have h:=C8 w f hv tx t.one (some ⟨b,0,none⟩) 1 (by rw[hl];decide) hT;rwa[hl] at h
variable {σ:Bb}{f f':Fq}{a:Option Addr}{v2 v4 x3 y3:Value}{w w':World}
theorem LA{nds:Nd}{b2 b3 b4:Nat}(hn:b2≠b3∧b2≠b4∧b3≠b4){fn:Func}(hr:fn.results=#[.cell 2 49,.cell 3 27,.cell 4 28])(h2:σ 2=some (pB b2))(h3:σ 3=some (pB b3))(h4:σ 4=some (pB b4)){er:Er}(hm:C7 nds=.error er)(hE:C2 (λ_=>False) w f w' f')
  (k2:AI w' b2 [v2] 49∧f' b2=0∧(true=true→w.heap.size≤b2)) (k3:AI w' b3 [x3,y3] 27∧f' b3=0∧(true=true→w.heap.size≤b3)) (k4:AI w' b4 [v4] 28∧f' b4=0∧(true=true→w.heap.size≤b4))
  (tmps:Array Value) (ht:∀t,t∈[2,3,4]→∀v,σ t=some v→tmps.getD t undef=v):Leaves prog fn tmps (λe w'=>∃v,e=.returned v∧VG nds w f v w') [{target:=.fn (.func 21) ([pB b2,pB b3,pB b4]:List Value).toArray,args:=#[]}] (.panicking (trI 67 er)) w':=by
 refine Fl (by simp) XB (SN w' f' hE.val b2 b3 b4 v2 x3 y3 v4 k2.1 k3.1 k4.1 ⟨k2.2.1,k3.2.1,k4.2.1⟩ hn er) λwz hz=>?_;rw[JH];obtain⟨f3,e3,z2,z3,z4⟩:=hz;refine BN (σ:=AA (E2 2 (pB b2) 3 (pB b3)) 4 (pB b4)) (λt v hv=>?_) (D6 hr (Bq rfl XI z2 rfl) (Ac rfl Ex z3 rfl) (Bq rfl Ht z4 rfl)) ⟨_,rfl,f3,C2.trans0 hE e3 (λb hb=>?_),by rw[hm]⟩
 ·
  by_cases e4:t=4
  · subst e4;exact ht 4 (by simp) v (h4.trans hv)
  by_cases e5:t=3
  · subst e5;exact ht 3 (by simp) v (h3.trans hv)
  by_cases e2:t=2
  · subst e2;exact ht 2 (by simp) v (h2.trans hv)
  have n4:Nat.beq t 4=false:=by cases h:Nat.beq t 4 with|false=>rfl|true=>exact absurd (Nat.eq_of_beq_eq_true h) e4
  have n3:Nat.beq t 3=false:=by cases h:Nat.beq t 3 with|false=>rfl|true=>exact absurd (Nat.eq_of_beq_eq_true h) e5
  have n2:Nat.beq t 2=false:=by cases h:Nat.beq t 2 with|false=>rfl|true=>exact absurd (Nat.eq_of_beq_eq_true h) e2
  simp[AA,Go.SW.e0,n2,n3,n4] at hv
 ·
  rcases hb with rfl|rfl|rfl
  · exact k2.2.2 rfl
  · exact k3.2.2 rfl
  · exact k4.2.2 rfl
theorem oX{nds:Nd}{b2 b3 b4:Nat}{fn:Func}(hr:fn.results=#[.cell 2 49,.cell 3 27,.cell 4 28])(h2:σ 2=some (pB b2))(h3:σ 3=some (pB b3))(h4:σ 4=some (pB b4)){bs:List (lU×lU)}(hm:C7 nds=.ok bs)(hE:C2 (λ_=>False) w f w' f'){c:Nat}(hB:JC w' f' bs a c)
  (k2:AI w' b2 [.slice a bs.length c] 49) (k3:AI w' b3 [iV 0,iV 0] 27) (k4:AI w' b4 [iV 0] 28)
  (tmps:Array Value) (ht:∀t v,σ t=some v→tmps.getD t undef=v):Leaves prog fn tmps (λe w'=>∃v,e=.returned v∧VG nds w f v w') [{target:=.fn (.func 21) ([pB b2,pB b3,pB b4]:List Value).toArray,args:=#[]}] .returning w':=by
 refine Fl (by simp) XB (QD w' b2 b3 b4) λwz hz=>?_;have e3:=C2.of_ext hz hE.val;refine BN ht (D6 hr (Bq h2 XI (k2.ext hz) rfl) (Ac h3 Ex (k3.ext hz) rfl) (Bq h4 Ht (k4.ext hz) rfl)) ⟨_,rfl,f',C2.trans0 hE e3 (λb hb=>hb.elim),?_⟩;rw[hm];exact⟨a,c,rfl,JC.mono _ _ _ _ hB (e3.fle hE.val (λ_ h=>h.elim))⟩
set_option maxHeartbeats 2000000 in
theorem Th(w:World)(f:Fq)(hv:Vl w f)(hG:ET w f)(nds:Nd)(na:Option Addr)(nc:Nat)(hwt:nds.wft)(hsz:nds.size≤200000)(htb:nds.txb)(hN:AD w f nds na nc) :
  Bo prog 12 #[.slice na nds.len nc] w (VG nds w f):=by
 have hkl0:=Nd.len_le nds;refine kO (K:=[2,3,4]) (X:=X0 w f) (H:=[]) (R:=[]) (B:=[]) (Fs:=[λw f=>AD w f nds na nc,λw f=>ET w f]) (f:=f) func12 rfl rfl rfl (BR hv ⟨hN,hG,tQ⟩ ⟨AD.mono,ET.mono,tQ⟩)<|Aa 8 [] (λb1=>λb2=>λb3=>λ_=>Io (p:=b1≠b2∧b1≠b3∧b2≠b3) (λw f hM=>by have h9:=hM.nd;simp[C6] at h9;exact⟨λe=>h9.2 e.symm,λe=>h9.1.2 e.symm,λe=>h9.1.1 e.symm⟩) λhn=>Aa 1 [] (λ_=>CW rfl rfl (λw f hM=>Uf rfl)<|vH rfl rfl<|Aa 4 [] (λ_=>Ud (XX:=λ_ _=>False) rfl rfl (eC iU rfl rfl) (λw f hM=>(S5 w f hM.vl hM.f1).retP) (λ_=>As.stab) (λ_=>⟨AF.mono,tQ⟩) (λ_ _ _ _ _ h=>h.elim) ?_)));rintro⟨A,ea⟩ hA;dsimp only at hA ⊢;refine Aa 21 [] (λ_=>NK 91 2<|NK 76 4 ?_);refine Fp (α:=Nat×Nd×List (lU×T1)×List Value×Option Addr×Nat×Option Addr×Nat×Ba×Option Addr×CS) (λx=>x.2.1.len) (λx=>x.1+x.2.1.len=nds.len∧DZ ZS Pa nds []=DZ x.2.2.2.2.2.2.2.2.2.2 x.2.2.2.2.2.2.2.2.1 x.2.1 x.2.2.1∧x.2.2.1.length≤x.1∧(Ff x.2.2.1).bnd∧F8 x.2.2.2.2.2.2.2.2.1∧x.2.1.wft∧x.2.1.txb∧D0 x.2.2.2.2.2.2.2.2.2.2∧x.2.1.size≤nds.size∧x.2.2.2.2.2.2.2.2.2.2.fresh+200002*x.2.1.size≤200002*nds.size∧x.2.1.size-(nds.size:Int)-1≤x.2.2.2.2.2.2.2.2.2.2.vars∧x.2.2.2.2.2.2.2.2.2.2.vars≤0) (λx=>(E9 2 (pB b1) 3 (pB b2) 4 (pB b3) 5 (pB A.cb) 6 (.pointer x.2.2.2.2.2.2.2.2.2.1) 7 (.slice x.2.2.2.2.1 x.2.2.1.length x.2.2.2.2.2.1) 19 (.slice na nds.len nc) 20 (iV (nds.len:Int)) 21 (iV (x.1:Int)))) (λx=>⟨λ_=>False,By A,As 84 163 A x.2.2.2.2.2.2.2.2.2.2,w,f⟩) (λx=>[⟨b3,[iV 0],28,true⟩,⟨b2,[iV 0,iV 0],27,true⟩,⟨b1,[.slice x.2.2.2.2.2.2.1 x.2.2.1.length x.2.2.2.2.2.2.2.1],49,true⟩]) (λx=>[⟨76,4,x.2.2.2.2.1,x.2.2.2.2.2.1,x.2.2.1.length,x.2.2.2.1⟩,⟨91,2,x.2.2.2.2.2.2.1,x.2.2.2.2.2.2.2.1,x.2.2.1.length,bC (S3 x.2.2.1)⟩]) (λx=>[]) (λx=>[λw f=>AT w f na x.1 x.2.1,λw f=>Be w f (Ff x.2.2.1) x.2.2.2.1,λw f=>AF w f x.2.2.2.2.2.2.2.2.1 x.2.2.2.2.2.2.2.2.2.1,λw f=>ET w f]) (0,nds,[],[],none,0,none,0,Pa,ea,ZS) ⟨Nat.zero_add _,rfl,Nat.le_refl _,tQ,sJ,hwt,htb,uG,Nat.le_refl _,by dsimp only[ZS];omega,by dsimp only[ZS];omega,(by decide:(-1:Int)≤0)⟩ lE (λw f hM=>hM.more (B':=[]) (F':=[λw f=>AT w f na 0 nds,λw f=>Be w f .nil []]) nE (AE.mem ⟨AD.at hM.f1,rfl,tQ⟩) (Ax.mem ⟨AT.mono,Be.mono,tQ⟩) |>.less sR sR nE (mR [0,1,2,4])) ?_;rintro⟨i,r,out,txs,ta,tc,oa,oc,e,ea,s⟩ ⟨hi,hti,hol,htyb,heB,hwt2,htx,hw,hrs,hfr,hv1,hv2⟩;dsimp only at hi hti hol htyb heB hwt2 htx hw hrs hfr hv1 hv2 ⊢;refine Aa 6 [] (λ_=>AJ 22 rfl rfl (λh1=>?_) (λh1=>?_));refine Aa 6 [] (λ_=>?_);have hil:i<nds.len:=by have:=of_decide_eq_true h1;omega
 obtain⟨op2,ln2,co2,tx2,nm2,k2,r,rfl⟩:=Nd.cases1 r oM;have hi2:i+(r.len+1)=nds.len:=hi;obtain⟨htx2,hkx2,hrx2⟩:=htx;have hrs2:k2.size+r.size+1≤nds.size:=hrs;have hfr2:s.fresh+200002*((k2.size+r.size+1:Nat):Int)≤200002*nds.size:=hfr;have hv3:((k2.size+r.size+1:Nat):Int)-nds.size-1≤s.vars:=hv1;have hkl:=Nd.len_le k2;have hfr0:=hw.fr;refine HF 0 rfl ?_;rintro⟨eb,eo,ka,kc⟩ rfl;refine Aa 26 [100,0,0,1] (aI oM<|y2<|λb4=>y<|λb5=>y<|λ_=>AJ 27 rfl rfl (λh2=>?_) (λh2=>?_));refine Aa 5 [1] (y<|λ_=>WL rfl rfl (eC mU rfl rfl) (λ_ h=>h) (λw f hM=>VD w f hM.vl A hA s hM.res hM.mz hw hM.f5 op2 ln2 co2 nm2 tx2 k2 ka kc oM htx2 hkx2 hM.f0 oM hv2) (λ_=>As.stab) (λ_=>trivial) (λer w2 f2 he hE hH=>LA hn rfl rfl rfl rfl (F5 (hti.trans (Dz (Tl h2 he)))) hE (hH _ Y8) (hH _ UL) (hH _ Uy)) ?_);rintro s5 ⟨hda,hw5,hfr5,hvv5,hvw5⟩;dsimp only at hda hw5 hfr5 hvv5 hvw5 ⊢;exact Aa 11 [] (aI ⟨oM,oM⟩<|λ_=>CX ((i+1,r,out,txs,ta,tc,oa,oc,e,ea,s5)) (show r.len<r.len+1 from Nat.lt_succ_self _) ⟨show i+1+r.len=_ by omega,hti.trans (T5 (VJ h2 hda)),show out.length≤i+1 by omega,htyb,heB,hwt2.2,hrx2,hw5,show r.size≤_ by omega,show s5.fresh+200002*(r.size:Int)≤_ by omega,show (r.size:Int)-nds.size-1≤s5.vars by omega,show s5.vars≤0 by omega⟩ lE (λw f hM=>⟨_,hM.less (sD (sD (sK (sK (sK sZ))))) sR nE (mR [1,3,4,5])⟩));refine Aa 7 [] (λ_=>AJ 32 rfl rfl (λh3=>?_) (λh3=>?_));refine Aa 2 [] (λ_=>?_);have hwk:k2.wfm 2:=by rcases hwt2.1 with h9|⟨h9,h8⟩|⟨h9,h8⟩ <;> first|exact h8|(exfalso;have:=beq_iff_eq.1 h3;omega)
 obtain⟨op3,ln3,co3,tx3,nm3,k3,r3,hkk⟩:=Ct hwk dC;have hwk2:r3.wfm 3:=by have h9:=hwk;rw[hkk] at h9;exact h9
 obtain⟨op4,ln4,co4,tx4,nm4,k4,r4,rfl⟩:=Ct hwk2 dC;rw[Vz] at hwk2;have hks2:(Nd.cons op4 ln4 co4 tx4 nm4 k4 r4).size=k4.size+r4.size+1:=rfl;have hkl3:(Nd.cons op4 ln4 co4 tx4 nm4 k4 r4).len=r4.len+1:=rfl;have hkx3:tx3.length≤100000∧k3.txb:=by have h9:=hkx2;rw[hkk] at h9;exact⟨h9.1,h9.2.1⟩
 have hks:k2.size=k3.size+(Nd.cons op4 ln4 co4 tx4 nm4 k4 r4).size+1:=by rw[hkk];rfl
 have hkl2:k2.len=(Nd.cons op4 ln4 co4 tx4 nm4 k4 r4).len+1:=by rw[hkk];rfl
 refine Yc 0 rfl hkk<|HF 0 rfl ?_;rintro⟨eb3,eo3,ka3,kc3⟩ rfl;refine HF 1 rfl ?_;rintro⟨eb4,eo4,ka4,kc4⟩ h44;obtain⟨rfl,rfl⟩:eb3=eb4∧eo3=eo4:=by cases h44;exact⟨rfl,rfl⟩
 refine Wu [2,3,4] (λw=>AI w A.cb [pB A.sb,.map (some A.km),.map (some A.dm),.map (some A.rm),iV s.vars] 84∧BE BI w A.rm (s.roots.map λk=>(k,.bool true))) (λw f h _=>⟨h.blk,h.roots⟩) [0,1,2,3,4] Am (rd [0,1,2,3,4,5,6,7,8,9] (.br 10 .fin .fin)) rfl kR kR kR rfl Ey<|A2 3 [] (λ_=>Gn rfl rfl rfl (λw hK=>Ai rfl eL hK.2.2.1 rfl)<|A2 2 [1] (y<|λ_=>Gn rfl rfl rfl (λw hK=>Lr (K:=BI) (a:=tx2) rfl rfl Vp FD aR hK.2.2.2 hw.dr (Re s.roots))<|A2 3 [1] (y<|λ_=>Ag rfl ?_ Aj)));refine WL (α:=Unit) (val:=λ_=>.tuple #[]) (q:=λ_=>(!s.roots.contains tx2)=true) (I':=λ_=>As 84 163 A s) (F':=λ_=>[]) (pe:=λer=>(!s.roots.contains tx2)=false∧er=(ln2,co2,11)) (M:=λ_=>False) (T:=67) rfl rfl (eC Ek rfl rfl) (λ_ h=>h.elim) (λw f hM=>(Ci w f hM.vl (!s.roots.contains tx2) ln2 co2).mono (λ_ _ ⟨x,f2,h1,h2,h3,h4⟩=>⟨x,f2,h1,h2,h3.mono (λ_ h=>h.elim),(hM.call0 h3).res,h4⟩) λ_ _ h=>h) (λ_=>As.stab) (λ_=>trivial) (λer w2 f2 he hE hH=>LA hn rfl rfl rfl rfl (F5 (hti.trans (Dz (by obtain⟨h9,rfl⟩:=he;rw[hkk];exact TI h3 (Fj h9))))) hE (hH _ Y8) (hH _ UL) (hH _ Uy)) ?_;rintro⟨⟩ hnd;replace hnd:s.roots.contains tx2=false:=EU hnd;refine Aa 1 [] (λ_=>AW [0,1,2,3,4] (λw f h _=>⟨h.blk,h.roots⟩) rfl (λ_ h=>h)<|Bk<|Aa 2 [] (λ_=>Wu [2,3,4] (λw=>AI w A.cb [pB A.sb,.map (some A.km),.map (some A.dm),.map (some A.rm),iV s.vars] 84) (λw f h _=>h.blk) [0,1,2,3,4] Am (rd [0,1,2,3,4,5] (.br 6 .fin .fin)) rfl kR kR kR rfl Ey<|A2 3 [] (λ_=>Gn rfl rfl rfl (λw hK=>Ai rfl eL hK.2.2 rfl)<|A2 2 [1] (y<|λ_=>Ag rfl ?_ Aj))));refine oW (a:=tx2) hA hw rfl rfl rfl rfl Vp FD hnd ?_;have hwr:=hw.addRoot hnd;refine Aa 1 [] (λ_=>AW [0,1,2,3,4] (λw f h _=>h.blk) rfl (λ_ h=>h)<|Bk<|Aa 8 [1,101,0] (y<|aI oM<|y2<|λ_=>WL (α:=T1×Option Addr×Nat) (val:=λx=>tV x.1 x.2.1 x.2.2) (q:=λx=>CE s.datas [] op3 ln3 co3 tx3 k3=.ok x.1∧x.1.bnd) (I':=λ_=>As 84 163 A ({s with roots:=tx2::s.roots}:CS)) (F':=λx=>[λw f=>Ak w f x.1.kids x.2.1 x.2.2]) (pe:=λer=>CE s.datas [] op3 ln3 co3 tx3 k3=.error er) (M:=λ_=>False) (T:=67) rfl rfl (eC Nz rfl rfl) (λ_ h=>h.elim) (λw f hM=>(Ks (k3.size+1) w f hM.vl A ({s with roots:=tx2::s.roots}:CS) hM.res hwr hM.f10 op3 ln3 co3 nm3 tx3 k3 ka3 kc3 (.map none) [] (Nat.lt_succ_self _) oM hkx3.1 hkx3.2 (.inl ⟨rfl,rfl⟩) hM.f2).mono (λ_ _ ⟨x,f2,h1,h2,h3,h4⟩=>⟨x,f2,h1,h2,h3.mono (λ_ h=>h.elim),(hM.call0 h3).res,h4⟩) λ_ _ h=>h) (λ_=>As.stab) (λ_=>⟨Ak.mono,tQ⟩) (λer w2 f2 he hE hH=>LA hn rfl rfl rfl rfl (F5 (hti.trans (Dz (by rw[hkk];exact S4 h3 hnd he)))) hE (hH _ Y8) (hH _ UL) (hH _ Uy)) ?_));rintro⟨q5,qa,qc⟩ ⟨hp5,hqb⟩;dsimp only at hp5 hqb ⊢;refine Aa 5 [0] (λb6=>y<|λ_=>Wu [2,3,4] (λ_=>True) EE [0,1,2,3,4,5] Am (rd [0,1,2,3,4,5,6,7,9,10] (.br 8 (.br 11 .fin .fin) .fin)) rfl kR kR kR rfl Ey<|A2 10 [0,2,100,0,2] (y<|y<|aI oM<|y2<|y<|λ_=>Ag rfl ?_ Aj))
 refine WL rfl rfl (eC CA rfl rfl) (λ_ h=>h) (λw f hM=>Jb (k4.size+1) w f hM.vl A hA ({s with roots:=tx2::s.roots}:CS) hM.res hM.mz hwr op4 ln4 co4 nm4 tx4 k4 ka4 kc4 e ea (Nat.lt_succ_self _) oM hwk2 hM.f1 heB hM.f10 (by first|omega|(dsimp only;omega))) (λ_=>As.stab) (λ_=>⟨Ak.mono,tQ⟩) (λer w2 f2 he hE hH=>LA hn rfl rfl rfl rfl (F5 (hti.trans (Dz (by rw[hkk];exact TO h3 hnd hp5 he)))) hE (hH _ tZ) (hH _ Y8) (hH _ UL)) ?_;rintro⟨⟨t6,t6a,t6c⟩,s6⟩ ⟨hp6,htb6,hw6,hf6⟩;dsimp only at hp6 htb6 hw6 hf6 ⊢;have hfm6:=Gi Ee _ hp6;have hvv6:s6.vars=s.vars:=hfm6.2.2.2;refine Aa 1 [] (λ_=>Au [0,1,2,3,4,5] rfl<|Ag rfl ?_ Aj);refine WL rfl rfl (eC FO rfl rfl) (λ_ h=>h) (λw f hM=>CJ w f hM.vl A hA s6 hM.res hM.mz hw6 q5 t6 qa qc t6a t6c hqb htb6 hM.f1 hM.f0 ln2 co2) (λ_=>As.stab) (λ_=>trivial) (λer w2 f2 he hE hH=>LA hn rfl rfl rfl rfl (F5 (hti.trans (Dz (by rw[hkk];exact Us h3 hnd hp5 hp6 he)))) hE (hH _ tZ) (hH _ Y8) (hH _ UL)) ?_;rintro s7 ⟨hh7,hw7,hf7⟩;have hvv7:s7.vars=s.vars:=(Ee.has hh7).2.2.2.trans hvv6;refine Aa 1 [] (λ_=>Au [0,1,2,3,4,5] rfl<|Bk<|Aa 5 [0] (y<|λb7=>λ_=>CG 0 rfl rfl<|Br (α:=Option Addr×Nat) rfl rfl (eC Bt rfl rfl) (λw f hM=>VT w f hM.vl CU q5 b7 (CQ (l:=[(q5,qa,qc)]) ⟨hM.f1,tQ⟩ hM.b0)) (λ_=>⟨Ak.mono,tQ⟩) ?_));rintro⟨ua,uc⟩ -;refine Aa 11 [1,2,1,2] (y<|y<|y<|y<|λ_=>?_);have hub:(T1.con CU q5.one).bnd:=Dc dC (by rw[T1.one,T1.len_cons];simp only[Ty.len];omega) (Gj hqb);refine WL rfl rfl (eC HH rfl rfl) (λ_ h=>h) (λw f hM=>DN w f hM.vl A hA s7 hM.res hM.mz hw7 e ea heB hM.f12 tx2 (T1.con CU q5.one) ua uc hub hM.f0 false ln2 co2) (λ_=>As.stab) (λ_=>⟨AF.mono,tQ⟩) (λer w2 f2 he hE hH=>LA hn rfl rfl rfl rfl (by cases he) hE (hH _ tZ) (hH _ Y8) (hH _ UL)) ?_;rintro⟨e7,ea7⟩ ⟨he7,heB7⟩;dsimp only at he7 heB7 ⊢;have hee:e7=⟨tx2,.con CU q5.one,[]⟩::e:=by cases he7;rfl
 subst hee;refine Aa 11 [5,2] (y<|y<|λb8=>λ_=>Da 1 0 rfl rfl Uz rfl rfl rfl rfl rfl rfl rfl rfl (λ_ _=>rfl) oM oM λoa2 oc2=>Aa 7 [6,2] (y<|y<|λb9=>λ_=>Da 0 0 rfl rfl CM rfl rfl rfl rfl rfl rfl rfl rfl (λ_ _=>rfl) oM oM λta2 tc2=>Aa 8 [] (aI ⟨oM,oM⟩<|λ_=>?_)));exact CX ((i+1,r,(out++[(tx2,(T1.con CU q5.one))]),txs++tC (T1.con CU q5.one) ua uc,ta2,tc2,oa2,oc2,(⟨tx2,.con CU q5.one,[]⟩::e),ea7,s7)) (show r.len<r.len+1 from Nat.lt_succ_self _) ⟨show i+1+r.len=_ by omega,hti.trans (HL (by rw[hkk];exact Vx h3 hnd hp5 hp6 hh7)),show (out++[(tx2,(T1.con CU q5.one))]).length≤i+1 by rw[List.length_append];simp;omega,show (Ff (out++[(tx2,(T1.con CU q5.one))])).bnd by rw[DL];exact Ty.bnd_snoc htyb hub,heB7,hwt2.2,hrx2,hw7,show r.size≤_ by omega,show s7.fresh+200002*(r.size:Int)≤_ by omega,show (r.size:Int)-nds.size-1≤s7.vars by omega,show s7.vars≤0 by omega⟩ (eP rfl rfl rfl rfl rfl (Eq.trans (b:=some (Value.slice ta2 (out.length+1) tc2)) rfl (by dsimp only;rw[List.length_append];rfl)) rfl rfl rfl) (λw f hM=>⟨_,by have hM9:=(hM.more (B':=[]) (F':=[λw f=>Be w f (Ff (out++[(tx2,(T1.con CU q5.one))])) (txs++tC (T1.con CU q5.one) ua uc)]) nE (AE.mem ⟨by rw[DL];exact Be.snoc hM.f1 hM.f12,tQ⟩) (Ax.mem ⟨Be.mono,tQ⟩)).less (sD (sD (sD (sD (sD (sK (sK (sK sZ)))))))) sR (B':=[]) nE (F':=[λw f=>AT w f (some ⟨eb,eo,none⟩) (i+1) r,λw f=>Be w f (Ff (out++[(tx2,(T1.con CU q5.one))])) (txs++tC (T1.con CU q5.one) ua uc),λw f=>AF w f (⟨tx2,.con CU q5.one,[]⟩::e) ea7,λw f=>ET w f]) (mR [11,0,1,15]);dsimp only;rw[show (out++[(tx2,(T1.con CU q5.one))]).length=out.length+1 by rw[List.length_append];rfl,show bC (S3 (out++[(tx2,(T1.con CU q5.one))]))=bC (S3 out)++[S tx2,S []] by rw[S3,List.map_append,SP.bC_app];rfl];exact hM9⟩);refine Aa 7 [] (λ_=>AJ 80 rfl rfl (λh4=>?_) (λh4=>?_));refine Aa 2 [] (λ_=>?_);have hwk:k2.wfm 3:=by rcases hwt2.1 with h9|⟨h9,h8⟩|⟨h9,h8⟩ <;> first|exact h8|(exfalso;have:=beq_iff_eq.1 h4;omega)
 obtain⟨op3,ln3,co3,tx3,nm3,k3,r3,hkk⟩:=Ct hwk dC;have hwk1:Gu op3 k3:=by have h9:=hwk;rw[hkk] at h9;exact h9
 have hks:k2.size=k3.size+r3.size+1:=by rw[hkk];rfl
 have hkl2:k2.len=r3.len+1:=by rw[hkk];rfl
 refine Yc 0 rfl hkk<|HF 0 rfl ?_;rintro⟨eb3,eo3,ka3,kc3⟩ rfl;refine Aa 7 [1,100,0] (y<|aI oM<|y2<|λ_=>WL rfl rfl (eC CA rfl rfl) (λ_ h=>h) (λw f hM=>Jb (k3.size+1) w f hM.vl A hA s hM.res hM.mz hw op3 ln3 co3 nm3 tx3 k3 ka3 kc3 e ea (Nat.lt_succ_self _) oM hwk1 hM.f0 heB hM.f7 (by first|omega|(dsimp only;omega))) (λ_=>As.stab) (λ_=>⟨Ak.mono,tQ⟩) (λer w2 f2 he hE hH=>LA hn rfl rfl rfl rfl (F5 (hti.trans (Dz (by rw[hkk];exact Wg h4 he)))) hE (hH _ Y8) (hH _ UL) (hH _ Uy)) ?_);rintro⟨⟨t6,t6a,t6c⟩,s6⟩ ⟨hp6,htb6,hw6,hf6⟩;dsimp only at hp6 htb6 hw6 hf6 ⊢;have hfm6:=Gi Ee _ hp6;have hvv6:s6.vars=s.vars:=hfm6.2.2.2;refine Aa 3 [0] (y<|λ_=>Wu [2,3,4] (λ_=>True) EE [0,1,2,3,4] Am (rd [0,1,2,3,4,5,6,7,8,10,11] (.br 9 (.br 12 (.rd 13 .fin) .fin) .fin)) rfl kR kR kR rfl Ey<|A2 11 [1,0,1,100,0,1] (y<|y<|y<|aI oM<|y2<|y<|λ_=>Ag rfl ?_ Aj));refine Br rfl rfl (eC Tx rfl rfl) (λw f hM=>JF (k3.size+1) w f hM.vl op3 ln3 co3 nm3 tx3 k3 ka3 kc3 (Nat.lt_succ_self _) oM hM.f1) (λx=>trivial) ?_;rintro⟨⟩ -;refine Aa 1 [] (λ_=>Au [0,1,2,3,4] rfl<|Ag rfl ?_ Aj);refine WL rfl rfl (eC HH rfl rfl) (λ_ h=>h) (λw f hM=>DN w f hM.vl A hA s6 hM.res hM.mz hw6 e ea heB hM.f8 tx2 t6 t6a t6c htb6 hM.f0 (Cq (k3.size+1) op3 k3) ln2 co2) (λ_=>As.stab) (λ_=>⟨AF.mono,tQ⟩) (λer w2 f2 he hE hH=>LA hn rfl rfl rfl rfl (F5 (hti.trans (Dz (by rw[hkk];exact Wb h4 hp6 he)))) hE (hH _ Y8) (hH _ UL) (hH _ Uy)) ?_;rintro⟨e7,ea7⟩ ⟨he7,heB7⟩;dsimp only at he7 heB7 ⊢;refine Aa 1 [] (λ_=>Au [0,1,2,3,4] rfl<|A2 1 [] (λ_=>Bk<|Aa 9 [4,1] (y<|y<|λb10=>λ_=>Da 1 0 rfl rfl Uz rfl rfl rfl rfl rfl rfl rfl rfl (λ_ _=>rfl) oM oM λoa2 oc2=>Aa 7 [5,1] (y<|y<|λb11=>λ_=>Da 0 0 rfl rfl CM rfl rfl rfl rfl rfl rfl rfl rfl (λ_ _=>rfl) oM oM λta2 tc2=>Aa 8 [] (aI ⟨oM,oM⟩<|λ_=>?_)))))
 exact CX ((i+1,r,(out++[(tx2,t6)]),txs++tC t6 t6a t6c,ta2,tc2,oa2,oc2,e7,ea7,s6)) (show r.len<r.len+1 from Nat.lt_succ_self _) ⟨show i+1+r.len=_ by omega,hti.trans (HL (by rw[hkk];exact WW h4 hp6 he7)),show (out++[(tx2,t6)]).length≤i+1 by rw[List.length_append];simp;omega,show (Ff (out++[(tx2,t6)])).bnd by rw[DL];exact Ty.bnd_snoc htyb htb6,heB7,hwt2.2,hrx2,hw6,show r.size≤_ by omega,show s6.fresh+200002*(r.size:Int)≤_ by omega,show (r.size:Int)-nds.size-1≤s6.vars by omega,show s6.vars≤0 by omega⟩ (eP rfl rfl rfl rfl rfl (Eq.trans (b:=some (Value.slice ta2 (out.length+1) tc2)) rfl (by dsimp only;rw[List.length_append];rfl)) rfl rfl rfl) (λw f hM=>⟨_,by have hM9:=(hM.more (B':=[]) (F':=[λw f=>Be w f (Ff (out++[(tx2,t6)])) (txs++tC t6 t6a t6c)]) nE (AE.mem ⟨by rw[DL];exact Be.snoc hM.f1 hM.f8,tQ⟩) (Ax.mem ⟨Be.mono,tQ⟩)).less (sD (sD (sD (sD (sK (sK (sK sZ))))))) sR (B':=[]) nE (F':=[λw f=>AT w f (some ⟨eb,eo,none⟩) (i+1) r,λw f=>Be w f (Ff (out++[(tx2,t6)])) (txs++tC t6 t6a t6c),λw f=>AF w f e7 ea7,λw f=>ET w f]) (mR [7,0,1,11]);dsimp only;rw[show (out++[(tx2,t6)]).length=out.length+1 by rw[List.length_append];rfl,show bC (S3 (out++[(tx2,t6)]))=bC (S3 out)++[S tx2,S []] by rw[S3,List.map_append,SP.bC_app];rfl];exact hM9⟩);refine Aa 7 [] (λ_=>AJ 102 rfl rfl (λh5=>?_) (λh5=>?_));refine Aa 2 [] (λ_=>?_);have hwk:k2.wfm 3:=by rcases hwt2.1 with h9|⟨h9,h8⟩|⟨h9,h8⟩ <;> first|exact h8|(exfalso;have:=beq_iff_eq.1 h5;omega)
 obtain⟨op3,ln3,co3,tx3,nm3,k3,r3,rfl⟩:=Ct hwk dC;rw[Vz] at hwk;have hks:(Nd.cons op3 ln3 co3 tx3 nm3 k3 r3).size=k3.size+r3.size+1:=rfl;refine Aa 4 [1] (y<|λ_=>WL rfl rfl (eC Xv rfl rfl) (λ_ h=>h) (λw f hM=>RF (k3.size+1) (Jb (k3.size+1)) w f hM.vl A hA s hM.res hM.mz hw op2 ln2 co2 nm2 tx2 op3 ln3 co3 nm3 tx3 k3 r3 ka kc e ea (Nat.lt_succ_self _) oM hwk hM.f0 heB hM.f4 oM) (λ_=>As.stab) (λ_=>⟨Ak.mono,tQ⟩) (λer w2 f2 he hE hH=>LA hn rfl rfl rfl rfl (F5 (hti.trans (Dz (VP h5 he)))) hE (hH _ Y8) (hH _ UL) (hH _ Uy)) ?_);rintro⟨⟨t6,t6a,t6c⟩,s6⟩ ⟨hp6,htb6,hw6,hf6⟩;dsimp only at hp6 htb6 hw6 hf6 ⊢;have hfm6:=PR Ee (Gi Ee _) hp6;have hvv6:s6.vars=s.vars:=hfm6.2.2.2;refine Aa 11 [0,1,0,1] (y<|y<|y<|y<|λ_=>WL rfl rfl (eC HH rfl rfl) (λ_ h=>h) (λw f hM=>DN w f hM.vl A hA s6 hM.res hM.mz hw6 e ea heB hM.f5 tx2 t6 t6a t6c htb6 hM.f0 true ln2 co2) (λ_=>As.stab) (λ_=>⟨AF.mono,tQ⟩) (λer w2 f2 he hE hH=>LA hn rfl rfl rfl rfl (F5 (hti.trans (Dz (Wp h5 hp6 he)))) hE (hH _ Y8) (hH _ UL) (hH _ Uy)) ?_);rintro⟨e7,ea7⟩ ⟨he7,heB7⟩;dsimp only at he7 heB7 ⊢;exact Aa 11 [4,1] (y<|y<|λb12=>λ_=>Da 1 0 rfl rfl Uz rfl rfl rfl rfl rfl rfl rfl rfl (λ_ _=>rfl) oM oM λoa2 oc2=>Aa 7 [5,1] (y<|y<|λb13=>λ_=>Da 0 0 rfl rfl CM rfl rfl rfl rfl rfl rfl rfl rfl (λ_ _=>rfl) oM oM λta2 tc2=>Aa 8 [] (aI ⟨oM,oM⟩<|λ_=>CX ((i+1,r,(out++[(tx2,t6)]),txs++tC t6 t6a t6c,ta2,tc2,oa2,oc2,e7,ea7,s6)) (show r.len<r.len+1 from Nat.lt_succ_self _) ⟨show i+1+r.len=_ by omega,hti.trans (HL (Zk h5 hp6 he7)),show (out++[(tx2,t6)]).length≤i+1 by rw[List.length_append];simp;omega,show (Ff (out++[(tx2,t6)])).bnd by rw[DL];exact Ty.bnd_snoc htyb htb6,heB7,hwt2.2,hrx2,hw6,show r.size≤_ by omega,show s6.fresh+200002*(r.size:Int)≤_ by omega,show (r.size:Int)-nds.size-1≤s6.vars by omega,show s6.vars≤0 by omega⟩ (eP rfl rfl rfl rfl rfl (Eq.trans (b:=some (Value.slice ta2 (out.length+1) tc2)) rfl (by dsimp only;rw[List.length_append];rfl)) rfl rfl rfl) (λw f hM=>⟨_,by have hM9:=(hM.more (B':=[]) (F':=[λw f=>Be w f (Ff (out++[(tx2,t6)])) (txs++tC t6 t6a t6c)]) nE (AE.mem ⟨by rw[DL];exact Be.snoc hM.f1 hM.f5,tQ⟩) (Ax.mem ⟨Be.mono,tQ⟩)).less (sD (sD (sD (sD (sK (sK (sK sZ))))))) sR (B':=[]) nE (F':=[λw f=>AT w f (some ⟨eb,eo,none⟩) (i+1) r,λw f=>Be w f (Ff (out++[(tx2,t6)])) (txs++tC t6 t6a t6c),λw f=>AF w f e7 ea7,λw f=>ET w f]) (mR [4,0,1,8]);dsimp only;rw[show (out++[(tx2,t6)]).length=out.length+1 by rw[List.length_append];rfl,show bC (S3 (out++[(tx2,t6)]))=bC (S3 out)++[S tx2,S []] by rw[S3,List.map_append,SP.bC_app];rfl];exact hM9⟩))));refine Aa 7 [] (λ_=>AJ 116 rfl rfl (λh6=>?_) (λh6=>?_));refine Aa 2 [] (λ_=>?_);have hwk:k2.wfm 3:=by rcases hwt2.1 with h9|⟨h9,h8⟩|⟨h9,h8⟩ <;> first|exact h8|(exfalso;have:=beq_iff_eq.1 h6;omega)
 obtain⟨op3,ln3,co3,tx3,nm3,k3,r3,hkk⟩:=Ct hwk dC;have hwk1:Gu op3 k3:=by have h9:=hwk;rw[hkk] at h9;exact h9
 have hks:k2.size=k3.size+r3.size+1:=by rw[hkk];rfl
 have hkl2:k2.len=r3.len+1:=by rw[hkk];rfl
 refine Yc 0 rfl hkk<|HF 0 rfl ?_;rintro⟨eb3,eo3,ka3,kc3⟩ rfl;refine Aa 7 [1,100,0] (y<|aI oM<|y2<|λ_=>WL rfl rfl (eC CA rfl rfl) (λ_ h=>h) (λw f hM=>Jb (k3.size+1) w f hM.vl A hA s hM.res hM.mz hw op3 ln3 co3 nm3 tx3 k3 ka3 kc3 e ea (Nat.lt_succ_self _) oM hwk1 hM.f0 heB hM.f7 (by first|omega|(dsimp only;omega))) (λ_=>As.stab) (λ_=>⟨Ak.mono,tQ⟩) (λer w2 f2 he hE hH=>LA hn rfl rfl rfl rfl (F5 (hti.trans (Dz (by rw[hkk];exact Yi h6 he)))) hE (hH _ Y8) (hH _ UL) (hH _ Uy)) ?_);rintro⟨⟨t6,t6a,t6c⟩,s6⟩ ⟨hp6,htb6,hw6,hf6⟩;dsimp only at hp6 htb6 hw6 hf6 ⊢;have hfm6:=Gi Ee _ hp6;have hvv6:s6.vars=s.vars:=hfm6.2.2.2;refine Aa 16 [0,1,4,1] (y<|y<|y<|y<|λb14=>λ_=>Da 1 0 rfl rfl Uz rfl rfl rfl rfl rfl rfl rfl rfl (λ_ _=>rfl) oM oM λoa2 oc2=>Aa 7 [5,1] (y<|y<|λb15=>λ_=>Da 0 0 rfl rfl CM rfl rfl rfl rfl rfl rfl rfl rfl (λ_ _=>rfl) oM oM λta2 tc2=>Aa 8 [] (aI ⟨oM,oM⟩<|λ_=>?_)));exact CX ((i+1,r,(out++[(([]:lU),t6)]),txs++tC t6 t6a t6c,ta2,tc2,oa2,oc2,e,ea,s6)) (show r.len<r.len+1 from Nat.lt_succ_self _) ⟨show i+1+r.len=_ by omega,hti.trans (HL (by rw[hkk];exact bV h6 hp6)),show (out++[(([]:lU),t6)]).length≤i+1 by rw[List.length_append];simp;omega,show (Ff (out++[(([]:lU),t6)])).bnd by rw[DL];exact Ty.bnd_snoc htyb htb6,heB,hwt2.2,hrx2,hw6,show r.size≤_ by omega,show s6.fresh+200002*(r.size:Int)≤_ by omega,show (r.size:Int)-nds.size-1≤s6.vars by omega,show s6.vars≤0 by omega⟩ (eP rfl rfl rfl rfl rfl (Eq.trans (b:=some (Value.slice ta2 (out.length+1) tc2)) rfl (by dsimp only;rw[List.length_append];rfl)) rfl rfl rfl) (λw f hM=>⟨_,by have hM9:=(hM.more (B':=[]) (F':=[λw f=>Be w f (Ff (out++[(([]:lU),t6)])) (txs++tC t6 t6a t6c)]) nE (AE.mem ⟨by rw[DL];exact Be.snoc hM.f0 hM.f7,tQ⟩) (Ax.mem ⟨Be.mono,tQ⟩)).less (sD (sD (sD (sD (sK (sK (sK sZ))))))) sR (B':=[]) nE (F':=[λw f=>AT w f (some ⟨eb,eo,none⟩) (i+1) r,λw f=>Be w f (Ff (out++[(([]:lU),t6)])) (txs++tC t6 t6a t6c),λw f=>AF w f e ea,λw f=>ET w f]) (mR [6,0,9,10]);dsimp only;rw[show (out++[(([]:lU),t6)]).length=out.length+1 by rw[List.length_append];rfl,show bC (S3 (out++[(([]:lU),t6)]))=bC (S3 out)++[S ([]:lU),S []] by rw[S3,List.map_append,SP.bC_app];rfl];exact hM9⟩);exfalso;have gh2:=beq_eq_false_iff_ne.1 h2;have gh3:=beq_eq_false_iff_ne.1 h3;have gh4:=beq_eq_false_iff_ne.1 h4;have gh5:=beq_eq_false_iff_ne.1 h5;have gh6:=beq_eq_false_iff_ne.1 h6;rcases hwt2.1 with h9|⟨h9,h8⟩|⟨h9,h8⟩ <;> omega
 refine Aa 3 [] (λ_=>ES<|Aa 4 [] (λ_=>?_));obtain rfl:r=.nil:=Nd.len0 (by have:=of_decide_eq_false h1;omega);have hti2:DZ ZS Pa nds []=.ok (out,s):=hti;have hol2:out.length≤200000:=oM;refine NT (λw f=>Ak w f (Ff out) ta tc) Ak.mono (λw f hM=>Hc hM hM.f1)<|Aa 7 [] (λ_=>?_);refine Fp (α:=List (lU×lU)×List (lU×T1)) (λx=>x.2.length) (λx=>x.1.length+x.2.length=out.length∧(C7 nds=match JY s x.2 with|.error e=>.error e|.ok l=>.ok (x.1++l))∧(Ff x.2).bnd) (λx=>(E7 2 (pB b1) 3 (pB b2) 4 (pB b3) 5 (pB A.cb) 137 (.slice ta out.length tc) 138 (iV (out.length:Int)) 139 (iV (x.1.length:Int)))) (λx=>⟨λ_=>False,By A,As 84 163 A s,w,f⟩) (λx=>[⟨b3,[iV 0],28,true⟩,⟨b2,[iV 0,iV 0],27,true⟩,⟨b1,[.slice oa out.length oc],49,true⟩]) (λx=>[⟨91,2,oa,oc,out.length,bC (PL x.1 x.2)⟩]) (λx=>[]) (λx=>[λw f=>BF w f ta x.1.length (Ff x.2)]) ([],out) ⟨by simp,(lC hti2).trans TZ,htyb⟩ lE (λw f hM=>hM.more (B':=[]) (F':=[λw f=>BF w f ta 0 (Ff out)]) nE (AE.mem ⟨Ak.at hM.f0,tQ⟩) (Ax.mem ⟨BF.mono,tQ⟩) |>.less (sK (sK (sK sZ))) sR nE (mR [0])) ?_;rintro⟨d,r⟩ ⟨hdl,hfi,htyr⟩;dsimp only at hdl hfi htyr ⊢;refine Aa 6 [] (λ_=>AJ 140 rfl rfl (λh7=>?_) (λh7=>?_));refine Aa 6 [] (λ_=>?_);have hjl:d.length<out.length:=by have:=of_decide_eq_true h7;omega
 obtain⟨⟨nm2,t2⟩,r2,rfl⟩:∃p q,r=p::q:=by cases r with|nil=>simp only[List.length_nil] at hdl;omega|cons p q=>exact⟨p,q,rfl⟩
 have htb2:t2.bnd∧(Ff r2).bnd:=T1.bnd_cons.1 htyr;refine Io (p:=∃ob,oa=some ⟨ob,0,none⟩) (λw f hM=>by rcases (hM.row _ (.head _)).2 with ⟨_,_,h9⟩|⟨ob,_,h9,_⟩;(dsimp only at h9;omega);exact⟨ob,h9⟩) λhob=>?_;obtain⟨ob,rfl⟩:=hob;refine KP (α:=Nat×Nat×Option Addr×Nat) (λx=>ta=some ⟨x.1,x.2.1,none⟩) (λx=>[⟨x.1,x.2.1+d.length*4,tC t2 x.2.2.1 x.2.2.2⟩]) (λx=>[λw f=>Ak w f t2.kids x.2.2.1 x.2.2.2,λw f=>BF w f ta (d.length+1) (Ff r2)]) (λw f hM=>let ⟨b,off,ka,kc,h1,h2,h3,h4⟩:=BF.head (show BF w f ta d.length (t2.cons (Ff r2)) from hM.f0);⟨(b,off,ka,kc),h1,(oE h2),AE.mem ⟨h3,h4,tQ⟩⟩) (λx=>Ax.mem ⟨Ak.mono,BF.mono,tQ⟩) ?_;rintro⟨ab2,ao2,ka2,kc2⟩ rfl;refine Aa 9 [100,0,0] (aI oM<|y2<|λb16=>y<|λ_=>Wu [2,3,4] (λ_=>True) EE [0,1,2,3] Am (rd [0,1,2,3,4] (.br 5 (.br 6 (.rd 7 (.rd 8 (.br 9 .fin .fin))) .fin) .fin)) rfl kR kR kR rfl Ey<|A2 5 [3,0] (y<|y<|λ_=>Ag rfl ?_ Aj));refine WL rfl rfl (eC Fu rfl rfl) (λ_ h=>h) (λw f hM=>Cj w f hM.vl A hA s hM.res hM.mz hw t2 ka2 kc2 htb2.1 hM.f0 0 0) (λ_=>As.stab) (λ_=>⟨Ak.mono,tQ⟩) (λer w2 f2 he hE hH=>LA hn rfl rfl rfl rfl (by rw[hfi,Yz he]) hE (hH _ UL) (hH _ Uy) (hH _ jD)) ?_;rintro⟨u2,ua2,uc2⟩ ⟨hfu,hub2,hus2⟩;dsimp only at hfu hub2 hus2 ⊢;refine Aa 1 [] (λ_=>Au [0,1,2,3] rfl<|Ag rfl ?_ Aj);refine Br rfl rfl (eC mX rfl rfl) (λw f hM=>W9 w f hM.vl u2 ua2 uc2 hus2 hub2 hM.f0) (λx=>trivial) ?_;rintro⟨⟩ -;refine Aa 1 [] (λ_=>Au [0,1,2,3] rfl<|A2 2 [] (aI oM<|λ_=>Ag rfl ?_ Aj));exact uZ 0 (bC (PL (d++[(nm2,OP u2)]) r2)) rfl rfl rfl rfl Xf rfl rfl rfl (by simp only[Nat.zero_add,List.length_cons,List.length_nil,Int.toNat_natCast];omega) (by rw[Nat.zero_add,Int.toNat_natCast];exact VB) rfl<|Aa 1 [] (λ_=>Au [0,1,2,3] rfl<|Bk<|Aa 6 [] (aI ⟨oM,oM⟩<|λ_=>CX ((d++[(nm2,OP u2)],r2)) (show r2.length<((nm2,t2)::r2).length from Nat.lt_succ_self _) ⟨show (d++[(nm2,OP u2)]).length+r2.length=_ by simp only[List.length_append,List.length_cons,List.length_nil] at hdl ⊢;omega,hfi.trans (Wf hfu),htb2.2⟩ (wH rfl rfl rfl rfl rfl rfl (Eq.trans (b:=some (Value.int .i64 ((d.length:Int)+1))) rfl (by dsimp only;simp))) (λw f hM=>⟨_,by have hM9:=hM.less (sD (sK (sK (sK sZ)))) sR (B':=[]) nE (F':=[λw f=>BF w f (some ⟨ab2,ao2,none⟩) (d.length+1) (Ff r2)]) (mR [2]);dsimp only;rw[List.length_append];exact hM9⟩)));refine Aa 3 [] (λ_=>ES<|Aa 3 [] (λ_=>?_));obtain rfl:r=[]:=by have h9:=of_decide_eq_false h7;cases r with|nil=>rfl|cons p q=>simp only[List.length_cons] at hdl;omega
 refine Aa 9 [2,2,1,0] (y<|y<|y<|y<|λ_=>λw9 f9 hM=>?_);obtain⟨f8,hM8,hB8⟩:=ZO (l:=PL d []) (by have hM9:=hM;rw[show out.length=(PL d []).length by rw[PL,List.length_append];simp only[List.map_nil,List.length_nil];exact hdl.symm] at hM9;exact hM9);have hinf:C7 nds=.ok d:=by rw[hfi];show (Except.ok (d++[]):RI _)=_;rw[List.append_nil]
 have hdd:PL d []=d:=List.append_nil d;rw[hdd] at hB8;exact λtmps ht=>oX rfl rfl rfl rfl hinf hM8.exm hB8 (by have h9:=hM8.blk _ Uy;rw[hdd] at h9;exact h9) (hM8.blk _ jD) (hM8.blk _ uE) tmps ht
end Go.Proofs.YtelmolopaolbcaaGreatDoor
namespace Go.SP
open Go.SW Go.RowKit
def Fo.sz:Fo→Nat
 |.nil=>0
 |.cons _ k r=>k.sz+r.sz+1
structure NW(k:Fo)(a:N):Prop where
 tx:a.tx.length≤100000
 kt:a.kids.txb
 sz:a.kids.size+2≤2*(k.sz+1)
def EW(f:AK→Fo→R N):Prop:=∀t k a,t.ok→k.ok→f t k=.ok a→NW k a
theorem IN{f:AK→Fo→R N}(hf:EW f):∀(fo:Fo)(x:Nd),fo.ok→Bj f fo=.ok x→x.txb∧x.size+x.len≤2*fo.sz∧x.len=fo.len
 |.nil,x,_,h=>by cases h;exact⟨tQ,Nat.le_refl _,rfl⟩
 |.cons t k r,x,hk,h=>by
   unfold Bj at h
   split at h
   · cases h
   rename_i a h1
   split at h
   · cases h
   rename_i b h2
   cases h
   have ha:=hf t k a hk.1 hk.2.1 h1;obtain⟨e1,e2,e3⟩:=IN hf r b hk.2.2.2 h2;refine⟨⟨ha.tx,ha.kt,e1⟩,?_,by simp only[N.cons,Nd.len,Fo.len,e3]⟩;have:=ha.sz;simp only[N.cons,Nd.size,Nd.len,Fo.sz];omega
variable {h:AK}{hk:Fo}{co ln nm:Int}{n:Nat}{ks:Nd}
theorem eH{t:AK}{k:Fo}{op:Int}{tx:lU}(h:tx.length≤100000):NW k ⟨op,ln,co,tx,nm,.nil⟩:=⟨h,tQ,by simp only[Nd.size];omega⟩
theorem qX{f:AK→Fo→R N}(hf:EW f){l:Fo}(hl:(Fo.cons h hk l).ok){op:Int}{tx:lU}(ht:tx.length≤100000)(he:Bj f l=.ok ks):NW (.cons h hk l) ⟨op,ln,co,tx,nm,ks⟩:=by
 obtain⟨e1,e2,_⟩:=IN hf l ks hl.2.2.2 he;refine⟨ht,e1,?_⟩;simp only[Fo.sz];omega
theorem vJ{f:AK→Fo→R N}(hf:EW f){l:Fo}(hl:l.ok){op:Int}{tx:lU}(ht:tx.length≤100000)(he:Bj f l=.ok ks):NW l ⟨op,ln,co,tx,nm,ks⟩:=by
 obtain⟨e1,e2,_⟩:=IN hf l ks hl he;refine⟨ht,e1,?_⟩;simp only;omega
theorem US:EW I6:=λt k a ht _ h=>by
 unfold I6 at h
 cases h
 split
 · exact eH (t:=t) (Nat.zero_le _)
 · exact eH (t:=t) ht.2
theorem X1:∀n,EW (DT n)
 |0=>λ_ _ _ _ _ h=>by cases h
 |n+1=>λt k a ht hk h=>by
   have ih:=X1 n;unfold DT at h;simp only[need] at h
   repeat' (split at h)
   all_goals first
     |(cases h;done)
     |exact US t _ a ht hk h
     |(cases h;first|exact eH (t:=t) (Nat.zero_le _)|exact eH (t:=t) ht.2|exact qX ih hk (Nat.zero_le _) (by assumption)|exact qX ih hk hk.1.2 (by assumption))
theorem R8{t:AK}:∀(x:Nd)(o:N),x.txb→FL t x=some o→o.tx.length≤100000∧o.kids.txb∧o.kids.size+2≤x.size+x.len
 |.nil,_,_,h=>by cases h
 |.cons op ln co tx nm kids .nil,o,hb,h=>by
   unfold FL at h
   cases h
   exact⟨hb.1,hb.2.1,by simp only[Nd.size,Nd.len];omega⟩
 |.cons op ln co tx nm kids (.cons a b c d e f r),o,hb,h=>by
   unfold FL at h;simp only at h
   cases hr:FL t (.cons a b c d e f r) with
   |none=>rw[hr] at h;cases h
   |some q =>
     rw[hr] at h
     cases h
     obtain⟨h1,h2,h3⟩:=R8 (.cons a b c d e f r) q hb.2.2 hr;refine⟨by simp[Az],⟨hb.1,hb.2.1,h1,h2,tQ⟩,?_⟩;simp only[Az,N.one,N.cons,Nd.size,Nd.len] at h3 ⊢;omega
theorem IW{α:Type}{t:AK}{b:Bool}{x:R α}{a:α}(h:need t b x=.ok a):b=true∧x=.ok a:=by
 unfold need at h
 split at h
 · rename_i hb;exact⟨hb,h⟩
 · cases h
theorem SI:∀n,EW (Dy n)
 |0=>λ_ _ _ _ _ h=>by cases h
 |n+1=>λt k a ht hk h=>by
   have ih:=SI n;unfold Dy at h
   by_cases hk0:(t.k==0)=true
   · rw[if_pos hk0] at h
     split at h
     · cases h
     rename_i hd hkk l;simp only at h
     by_cases hw:hd.isWord [45,62]=true
     · rw[if_pos hw] at h
       obtain⟨_,h⟩:=IW h
       split at h
       · cases h
       rename_i ks he;obtain⟨e1,e2,e3⟩:=IN ih l ks hk.2.2.2 he
       split at h
       · rename_i o ho
         cases h
         obtain⟨h1,h2,h3⟩:=R8 ks _ e1 ho;exact⟨h1,h2,by simp only[Fo.sz];omega⟩
       · cases h
     · rw[if_neg hw] at h
       obtain⟨_,h⟩:=IW h
       split at h
       · cases h
       rename_i ks he
       cases h
       exact qX ih hk hk.1.2 he
   · rw[if_neg hk0] at h
     split at h
     · cases h;exact eH (t:=t) ht.2
     · obtain⟨_,h⟩:=IW h
       cases h;exact eH (t:=t) ht.2
theorem lW{ex:AK→Fo→R N}(hex:EW ex):EW (GX n ex):=λt k a ht hk h=>by
 unfold GX at h
 split at h
 · rename_i p pk b bk
   obtain⟨_,h⟩:=IW h
   split at h
   · cases h
   rename_i q h1;obtain⟨_,h⟩:=IW h
   split at h
   · cases h
   rename_i x h3
   cases h
   have h1:=X1 n _ _ _ hk.1 hk.2.1 h1;have h3:=hex _ _ _ hk.2.2.2.1 hk.2.2.2.2.1 h3;refine⟨by simp[Az],⟨h1.tx,h1.kt,h3.tx,h3.kt,tQ⟩,?_⟩;have:=h1.sz;have:=h3.sz;simp only[Az,N.one,N.cons,Nd.size,Fo.sz];omega
 · cases h
theorem Py:∀{x y:Nd},x.txb→y.txb→(x.app y).txb
 |.nil,_,_,h=>h
 |.cons _ _ _ _ _ _ _,_,h,hy=>⟨h.1,h.2.1,Py h.2.2 hy⟩
theorem Ko:∀(x y:Nd),(x.app y).size=x.size+y.size
 |.nil,_=>by simp[Nd.app,Nd.size]
 |.cons _ _ _ _ _ _ r,y=>by simp only[Nd.app,Nd.size,Ko r y];omega
theorem tL{x y:N}{k1 k2 k:Fo}(h1:NW k1 x)(h2:NW k2 y)(hs:k1.sz+k2.sz+2≤k.sz){op:Int}{tx:lU}(ht:tx.length≤100000):NW k ⟨op,ln,co,tx,nm,x.cons y.one⟩:=by
 refine⟨ht,⟨h1.tx,h1.kt,h2.tx,h2.kt,tQ⟩,?_⟩;have:=h1.sz;have:=h2.sz;simp only[N.one,N.cons,Nd.size];omega
theorem tD{x:N}{k1 k:Fo}(h1:NW k1 x)(hs:k1.sz+1≤k.sz){op:Int}{tx:lU}(ht:tx.length≤100000):NW k ⟨op,ln,co,tx,nm,x.one⟩:=by
 refine⟨ht,⟨h1.tx,h1.kt,tQ⟩,?_⟩;have:=h1.sz;simp only[N.one,N.cons,Nd.size];omega
theorem eA{ex:AK→Fo→R N}(hex:EW ex){t:AK}{w:lU}{l:Fo}{a:N}(hl:l.ok)(h:Bh n ex t w l=.ok a):NW l a:=by
 unfold Bh at h;simp only[need] at h
 split at h
 · split at h
   · split at h
     · split at h
       · cases h
       rename_i hs h1
       split at h
       · cases h
       rename_i x h3
       cases h
       obtain⟨e1,e2,_⟩:=IN US _ _ hl.2.1 h1;have hx:=hex _ _ _ hl.2.2.2.1 hl.2.2.2.2.1 h3;refine⟨by simp[Az],Py e1 ⟨hx.tx,hx.kt,tQ⟩,?_⟩;have:=hx.sz;simp only[Az,Ko,N.one,N.cons,Nd.size,Fo.sz];omega
     · cases h
   · cases h
 split at h
 · split at h
   · split at h
     · split at h
       · cases h
       rename_i x h1
       split at h
       · cases h
       rename_i y h3
       cases h
       exact tL (hex _ _ _ hl.2.2.2.1 hl.2.2.2.2.1 h1) (hex _ _ _ hl.2.2.2.2.2.2.1 hl.2.2.2.2.2.2.2.1 h3) (by simp only[Fo.sz];omega) hl.1.2
     · cases h
   · cases h
 split at h
 · split at h
   · split at h
     · split at h
       · cases h
       rename_i x h1
       split at h
       · cases h
       rename_i y h3
       cases h
       exact tL (hex _ _ _ hl.2.2.2.1 hl.2.2.2.2.1 h1) (hex _ _ _ hl.2.2.2.2.2.2.1 hl.2.2.2.2.2.2.2.1 h3) (by simp only[Fo.sz];omega) hl.1.2
     · cases h
   · cases h
 iterate 3
   split at h
   · split at h
     · split at h
       · cases h
       rename_i ks h1
       cases h
       exact vJ hex hl (Nat.zero_le _) h1
     · cases h
 split at h
 · split at h
   · split at h
     · cases h
     · split at h
       · cases h
       rename_i x h1
       split at h
       · cases h
       rename_i ars h3
       cases h
       have hx:=hex _ _ _ hl.1 hl.2.1 h1;obtain⟨e1,e2,_⟩:=IN (lW hex) _ _ hl.2.2.2 h3;refine⟨by simp[Az],⟨hx.tx,hx.kt,e1⟩,?_⟩;have:=hx.sz;simp only[Az,N.cons,Nd.size,Fo.sz];omega
   · cases h
 split at h
 · split at h
   · split at h
     · cases h
     rename_i x h1
     cases h
     exact tD (hex _ _ _ hl.1 hl.2.1 h1) (by simp only[Fo.sz];omega) (Nat.zero_le _)
   · cases h
 · cases h
theorem pU{l:Fo}{a:N}(h1:NW l a):NW (.cons h hk l) a:=⟨h1.tx,h1.kt,by have:=h1.sz;simp only[Fo.sz];omega⟩
theorem M7:∀n,EW (Cb n)
 |0=>λ_ _ _ _ _ h=>by cases h
 |n+1=>λt k a ht hk h=>by
   have ih:=M7 n;unfold Cb at h;simp only[need] at h
   repeat' (split at h)
   all_goals first
     |(cases h;done)
     |exact pU (eA ih hk.2.2.2 h)
     |(cases h;first|exact eH (t:=t) (Nat.zero_le _)|exact eH (t:=t) ht.2|exact qX ih hk hk.1.2 (by assumption)|exact vJ ih hk (Nat.zero_le _) (by assumption))
theorem cK(n:Nat):EW (H4 n):=λt k a ht hk h=>by
 unfold H4 at h;simp only[need] at h
 repeat' (split at h)
 all_goals first
   |(cases h;done)
   |(cases h;exact qX (SI n) hk hk.1.2 (by assumption))
theorem Rq:∀(k:Fo)(x:Nd),k.ok→BW k=some x→x.txb∧x.size≤k.sz
 |.nil,x,_,h=>by cases h;exact⟨tQ,Nat.le_refl _⟩
 |.cons v _ r,x,hk,h=>by
   unfold BW at h
   split at h
   · cases hr:BW r with
     |none=>rw[hr] at h;cases h
     |some y =>
       rw[hr] at h
       cases h
       have:=Rq r y hk.2.2.2 hr;exact⟨⟨hk.1.2,tQ,this.1⟩,by simp only[Az,N.cons,Nd.size,Fo.sz];omega⟩
   · cases h
theorem mB(n:Nat):EW (CC n):=λt k a ht hk h=>by
 unfold CC at h;simp only[need] at h
 split at h
 · cases h
 rename_i hd hkk l;have hl:=hk.2.2.2
 split at h
 · split at h
   · split at h
     · split at h
       · split at h
         · cases h
         rename_i vs hv
         split at h
         · cases h
         rename_i cs h1
         cases h
         obtain⟨e1,e2⟩:=Rq _ _ hl.2.2.2.2.1 hv;obtain⟨e3,e4,_⟩:=IN (cK n) _ _ hl.2.2.2.2.2.2 h1;refine⟨hl.1.2,Py e1 e3,?_⟩;simp only[Az,Ko,Fo.sz] at e4 ⊢;omega
       · cases h
     · cases h
   split at h
   · split at h
     · split at h
       · split at h
         · cases h
         rename_i x h1
         split at h
         · cases h
         rename_i y h3
         cases h
         exact tL (SI n _ _ _ hl.2.2.2.1 hl.2.2.2.2.1 h1) (M7 n _ _ _ hl.2.2.2.2.2.2.1 hl.2.2.2.2.2.2.2.1 h3) (by simp only[Fo.sz];omega) hl.1.2
       · cases h
     · cases h
   split at h
   · split at h
     · split at h
       · split at h
         · cases h
         rename_i x h1
         cases h
         exact tD (M7 n _ _ _ hl.2.2.2.1 hl.2.2.2.2.1 h1) (by simp only[Fo.sz];omega) hl.1.2
       · cases h
     · cases h
   split at h
   · split at h
     · split at h
       · split at h
         · cases h
         rename_i x h1
         cases h
         exact tD (M7 n _ _ _ hl.2.2.2.1 hl.2.2.2.2.1 h1) (by simp only[Fo.sz];omega) hl.1.2
       · cases h
     · cases h
   split at h
   · split at h
     · split at h
       · cases h
       rename_i x h1
       cases h
       exact tD (M7 n _ _ _ hl.1 hl.2.1 h1) (by simp only[Fo.sz];omega) (Nat.zero_le _)
     · cases h
   · cases h
 · cases h
def EX(f:AK→Fo→R N):Prop:=∀t k a,f t k=.ok a→Gu a.op a.kids
theorem Ls{f:AK→Fo→R N}(hf:EX f):∀(fo:Fo)(x:Nd),Bj f fo=.ok x→x.wfm 0
 |.nil,x,h=>by cases h;exact .inl rfl
 |.cons t k r,x,h=>by
   unfold Bj at h
   split at h
   · cases h
   rename_i a h1
   split at h
   · cases h
   rename_i b h2
   cases h
   exact⟨hf t k a h1,Ls hf r b h2⟩
theorem Jf{f:AK→Fo→R N}:∀(fo:Fo)(x:Nd),Bj f fo=.ok x→x.len=fo.len
 |.nil,x,h=>by cases h;rfl
 |.cons t k r,x,h=>by
   unfold Bj at h
   split at h
   · cases h
   split at h
   · cases h
   rename_i b h2
   cases h
   simp only[N.cons,Nd.len,Fo.len,Jf r b h2]
def PX(f:AK→Fo→R N):Prop:=∀t k a,f t k=.ok a→(21≤a.op∧a.op≤27)∧a.kids.wfm 9
theorem Ya{f:AK→Fo→R N}(hf:PX f):∀(fo:Fo)(x:Nd),Bj f fo=.ok x→x.wfm 9
 |.nil,x,h=>by cases h;exact .inr (.inr rfl)
 |.cons t k r,x,h=>by
   unfold Bj at h
   split at h
   · cases h
   rename_i a h1
   split at h
   · cases h
   rename_i b h2
   cases h
   exact⟨hf t k a h1,Ya hf r b h2⟩
theorem XG:∀n,PX (DT n)
 |0=>λt k a h=>by cases h
 |n+1=>λt k a h=>by
   unfold DT at h;simp only[need,I6] at h
   repeat' (split at h)
   all_goals first
     |(cases h;done)
     |(cases h;exact⟨⟨by simp[Az],by simp[Az]⟩,.inr (.inr rfl)⟩)
     |(rename_i h3;cases h;exact⟨⟨by simp[Az],by simp[Az]⟩,Ya (XG n) _ _ h3⟩)
theorem Xd{ex:AK→Fo→R N}(hex:EX ex):∀(fo:Fo)(x:Nd),Bj (GX n ex) fo=.ok x→x.wfm 1
 |.nil,x,h=>by cases h;exact .inr (.inl rfl)
 |.cons t k r,x,h=>by
   unfold Bj at h
   split at h
   · cases h
   rename_i a h1
   split at h
   · cases h
   rename_i b h2
   cases h
   refine⟨?_,Xd hex r b h2⟩;unfold GX at h1;simp only[need] at h1
   repeat' (split at h1)
   all_goals first
     |(cases h1;done)
     |(rename_i h4 _ _ _ h3;cases h1;exact⟨XG n _ _ _ h4,hex _ _ _ h3⟩)
theorem rN:∀(hs:Nd){x:N},Gu x.op x.kids→(hs.app x.one).wfm 4
 |.nil,x,h=>.inl ⟨rfl,h⟩
 |.cons op ln co tx nm k r,x,h=>by
   refine .inr ⟨?_,rN r h⟩
   cases r <;> simp[Nd.app,N.one,N.cons]
theorem dM:∀{x:Nd},x.wfm 0→x.len=3→x.wfm 7
 |.cons _ _ _ _ _ _ (.cons _ _ _ _ _ _ (.cons _ _ _ _ _ _ .nil)),h,_=>⟨h.1,h.2.1,h.2.2.1⟩
 |.nil,_,h=>by cases h
 |.cons _ _ _ _ _ _ .nil,_,h=>by cases h
 |.cons _ _ _ _ _ _ (.cons _ _ _ _ _ _ .nil),_,h=>by cases h
 |.cons _ _ _ _ _ _ (.cons _ _ _ _ _ _ (.cons _ _ _ _ _ _ (.cons _ _ _ _ _ _ _))),_,h=>by simp[Nd.len] at h
theorem aG{ex:AK→Fo→R N}(hex:EX ex){t:AK}{w:lU}{l:Fo}{a:N}(h:Bh n ex t w l=.ok a):Gu a.op a.kids:=by
 unfold Bh at h;simp only[need] at h
 split at h
 · repeat' (split at h)
   all_goals first
     |(cases h;done)
     |(rename_i h3;cases h;exact .inr (.inr (.inl ⟨rfl,rN _ (hex _ _ _ h3)⟩)))
 split at h
 · repeat' (split at h)
   all_goals first
     |(cases h;done)
     |(rename_i h1 _ _ h3;cases h;exact .inr (.inr (.inr (.inr (.inl ⟨.inl rfl,hex _ _ _ h1,hex _ _ _ h3⟩)))))
 split at h
 · repeat' (split at h)
   all_goals first
     |(cases h;done)
     |(rename_i h1 _ _ h3;cases h;exact .inr (.inr (.inr (.inr (.inl ⟨.inr rfl,hex _ _ _ h1,hex _ _ _ h3⟩)))))
 split at h
 · split at h
   · rename_i hn
     split at h
     · cases h
     rename_i ks h1
     cases h
     have e:=Jf _ _ h1;have hn:=beq_iff_eq.1 hn;exact .inr (.inr (.inr (.inr (.inr (.inl ⟨rfl,dM (Ls hex _ _ h1) (show ks.len=3 by omega)⟩)))))
   · cases h
 split at h
 · split at h
   · rename_i hn
     split at h
     · cases h
     rename_i ks h1
     cases h
     have e:=Jf _ _ h1;have hn:=of_decide_eq_true hn;exact .inr (.inr (.inr (.inl ⟨.inr rfl,by show 0<ks.len;omega,Ls hex _ _ h1⟩)))
   · cases h
 split at h
 · split at h
   · split at h
     · cases h
     rename_i ks h1
     cases h
     exact .inr (.inr (.inr (.inr (.inr (.inr (.inl ⟨rfl,Ls hex _ _ h1⟩))))))
   · cases h
 split at h
 · split at h
   · rename_i hn
     split at h
     · cases h
     · split at h
       · cases h
       rename_i x h1
       split at h
       · cases h
       rename_i ars h3
       cases h
       have e:=Jf _ _ h3;have hn:=of_decide_eq_true hn;simp only[Fo.len] at hn;refine .inr (.inr (.inr (.inr (.inr (.inr (.inr (.inl ⟨?_,hex _ _ _ h1,by show 0<ars.len;omega,Xd hex _ _ h3⟩)))))));simp only[Az]
       split
       · exact .inr rfl
       · exact .inl rfl
   · cases h
 split at h
 · split at h
   · split at h
     · cases h
     rename_i x h1
     cases h
     refine .inr (.inr (.inr (.inr (.inr (.inr (.inr (.inr ⟨?_,hex _ _ _ h1⟩)))))));simp only[Az]
     split
     · exact .inr rfl
     · exact .inl rfl
   · cases h
 · cases h
theorem Nr:∀n,EX (Cb n)
 |0=>λ_ _ _ h=>by cases h
 |n+1=>λt k a h=>by
   have ih:=Nr n;unfold Cb at h;simp only[need] at h
   iterate 4
     split at h
     · cases h;first|exact .inr (.inl ⟨rfl,.inl rfl⟩)|exact .inl (by simp[Az])
   split at h
   · split at h
     · cases h;exact .inl (by simp[Az])
     · cases h
   split at h
   · cases h;exact .inl (by simp[Az])
   split at h
   · split at h
     · split at h
       · cases h
       rename_i ks h1
       cases h
       exact .inr (.inl ⟨rfl,Ls ih _ _ h1⟩)
     · cases h
   split at h
   · exact aG ih h
   · split at h
     · split at h
       · cases h
       rename_i ks h1
       cases h
       have e:=Jf _ _ h1;exact .inr (.inr (.inr (.inl ⟨.inl rfl,by show 0<ks.len;rw[e];exact Nat.succ_pos _,Ls ih _ _ h1⟩)))
     · cases h
theorem mT{t:AK}{k:Fo}{a:N}(h:CC n t k=.ok a):a.op=41∨(a.op=43∧a.kids.wfm 2)∨((a.op=44∨a.op=45∨a.op=46)∧a.kids.wfm 3):=by
 unfold CC at h;simp only[need] at h
 split at h
 · cases h
 split at h
 · split at h
   · repeat' (split at h)
     all_goals first
       |(cases h;done)
       |(cases h;exact .inl rfl)
   split at h
   · repeat' (split at h)
     all_goals first
       |(cases h;done)
       |(rename_i h3;cases h;exact .inr (.inl ⟨rfl,Nr n _ _ _ h3⟩))
   split at h
   · repeat' (split at h)
     all_goals first
       |(cases h;done)
       |(rename_i h3;cases h;exact .inr (.inr ⟨.inl rfl,Nr n _ _ _ h3⟩))
   split at h
   · repeat' (split at h)
     all_goals first
       |(cases h;done)
       |(rename_i h3;cases h;exact .inr (.inr ⟨.inr (.inl rfl),Nr n _ _ _ h3⟩))
   split at h
   · repeat' (split at h)
     all_goals first
       |(cases h;done)
       |(rename_i h3;cases h;exact .inr (.inr ⟨.inr (.inr rfl),Nr n _ _ _ h3⟩))
   · cases h
 · cases h
theorem XT:∀(fo:Fo)(x:Nd),Bj (CC n) fo=.ok x→x.wft
 |.nil,x,h=>by cases h;trivial
 |.cons t k r,x,h=>by
   unfold Bj at h
   split at h
   · cases h
   rename_i a h1
   split at h
   · cases h
   rename_i b h2
   cases h
   exact⟨mT h1,XT r b h2⟩
theorem P7:∀(a:Fo)(t:AK)(k:Fo),(a.snoc t k).sz=a.sz+k.sz+1
 |.nil,_,_=>by simp[Fo.snoc,Fo.sz]
 |.cons _ _ r,t,k=>by simp only[Fo.snoc,Fo.sz,P7 r t k];omega
def W4:List (AK×Fo)→Nat
 | []=>0
 |(_,p)::s=>p.sz+1+W4 s
theorem Ky:∀(l:List AK)(st:List (AK×Fo))(cur fo:Fo),Bn l st cur=.ok fo→fo.sz≤W4 st+cur.sz+l.length
 | [],[],cur,fo,h=>by simp only[Bn] at h;cases h;simp[W4]
 | [],(o,p)::s,cur,fo,h=>by unfold Bn at h;split at h <;> cases h
 |k::l,st,cur,fo,h=>by
   unfold Bn at h
   split at h
   · split at h
     · cases h
     · have:=Ky l _ _ _ h
       simp only[W4,Fo.sz,List.length_cons] at this ⊢;omega
   · split at h
     · cases st with
       |nil=>cases h
       |cons op s =>
         have:=Ky l _ _ _ h;simp only[W4,P7,List.length_cons] at this ⊢;omega
     · have:=Ky l _ _ _ h
       simp only[P7,Fo.sz,List.length_cons] at this ⊢;omega
structure vT(nds:Nd):Prop where
 wft:nds.wft
 txb:nds.txb
 size:nds.size≤200000
theorem bJ(n:Nat)(src:lU):vT (Kd n (Lo src)).1:=by
 unfold Kd
 cases hl:Lo src with
 |error e=>exact⟨tQ,tQ,Nat.zero_le _⟩
 |ok toks =>
   obtain⟨h1,h2⟩:=Uu hl;simp only
   cases ht:Bn toks [] .nil with
   |error e=>exact⟨tQ,tQ,Nat.zero_le _⟩
   |ok fo =>
     simp only
     cases he:Bj (CC n) fo with
     |error e=>exact⟨tQ,tQ,Nat.zero_le _⟩
     |ok nds =>
       have h3:=(G0 toks 0 [] .nil fo h2 oM (by simp) tQ tQ (by simp[Fo.len]) (by rfl) ht).1;have h4:=Ky toks [] .nil fo ht;obtain⟨e1,e2,_⟩:=IN (mB n) fo nds h3 he;simp only[W4,Fo.sz] at h4;exact⟨XT fo nds he,e1,by show nds.size≤_;omega⟩
theorem ZN{a b:Int}:((a,b,11):Er).2.2≠0:=(by decide:(11:Int)≠0)
theorem e4{a b:Int}:((a,b,4):Er).2.2≠0:=(by decide:(4:Int)≠0)
theorem bY{b:BS}{n:Int}{t:T1}{x:Int}(h:Cl b n t=.error x):x≠0:=by
 unfold Cl at h
 repeat' split at h
 all_goals (cases h;try decide)
theorem Oy{f:BS→Ty→Ty→Except Int BS}(hf:∀ {b x y e},f b x y=.error e→e≠0){b:BS}{x y:T1}{r q:Ty}{e:Int}(h:HV f b x y r q=.error e):e≠0:=by
 unfold HV at h
 repeat' split at h
 all_goals first
   |exact hf h
   |(cases h;first|decide|exact bY (by assumption))
theorem KN:∀(k:Nat){b:BS}{x y:Ty}{e:Int},Lh k b x y=.error e→e≠0
 |k,b,.nil,y,e,h=>by cases k <;> cases h
 |0,b,.var _ _,y,e,h=>by cases h;decide
 |0,b,.con _ _ _,y,e,h=>by cases h;decide
 |k+1,b,.var n r,y,e,h=>Oy (KN k) h
 |k+1,b,.con tx ka r,y,e,h=>Oy (KN k) h
section
variable{s:CS}{e:Ba}{ln co:Int}{tx:lU}{t u:T1}{x:Er}
theorem Ho(h:EO s t u ln co=.error x):x.2.2≠0:=by
 unfold EO at h
 split at h
 · rename_i h1;cases h;exact KN _ h1
 · cases h
theorem K7(h:GD s t ln co=.error x):x.2.2≠0:=by
 unfold GD at h
 split at h
 · cases h;first|exact ZN|exact e4
 · cases h
theorem P0{v:Bool}(h:GJ s e tx t v ln co=.error x):x.2.2≠0:=by
 unfold GJ at h
 repeat' split at h
 · rename_i h1;cases h;exact K7 h1
 · cases h
 · cases h
theorem Vd{k:Nat}(h:Ij s tx k ln co=.error x):x.2.2≠0:=by
 unfold Ij at h
 repeat' split at h
 all_goals (cases h;try exact ZN)
theorem cV(h:Hf s e tx ln co=.error x):x.2.2≠0:=by
 unfold Hf at h
 repeat' split at h
 · cases h;first|exact ZN|exact e4
 · rename_i h1;cases h;exact K7 h1
 · cases h
end
def vM(p:LF):Prop:=∀{s e op ln co tx nm k x},p s e op ln co tx nm k=.error x→x.2.2≠0
def vP(p:N2):Prop:=∀{s e op ln co tx nm k x},p s e op ln co tx nm k=.error x→x.2.2≠0
section
variable{p:LF}(hp:vM p)
include hp
theorem PZ{e:Ba}:∀(k:Nd){s:CS}{x:Er},Ec p e s k=.error x→x.2.2≠0
 |.nil,_,_,h=>by cases h
 |.cons op ln co tx nm k r,s,x,h=>by
   unfold Ec at h
   split at h
   · rename_i h1;cases h;exact hp h1
   · split at h
     · rename_i h2;cases h;exact PZ r h2
     · cases h
theorem Vc{e:Ba}:∀(k:Nd){s:CS}{l:Ty}{x:Er},FY p e s l k=.error x→x.2.2≠0
 |.nil,_,_,_,h=>by cases h
 |.cons op ln co tx nm k r,s,l,x,h=>by
   unfold FY at h
   split at h
   · rename_i h1;cases h;exact hp h1
   · split at h
     · rename_i h2;cases h;exact Ho h2
     · exact Vc r h
theorem YY{e:Ba}:∀(k:Nd){s:CS}{t:T1}{x:Er},J4 p e s t k=.error x→x.2.2≠0
 |.nil,_,_,_,h=>by cases h
 |.cons op ln co tx nm k r,s,t,x,h=>by
   unfold J4 at h
   split at h
   · rename_i h1;cases h;exact hp h1
   · split at h
     · rename_i h2;cases h;exact Ho h2
     · exact YY r h
variable {k:Nd}
theorem YB{s:CS}{e:Ba}{ln co o l c m:Int}{tx x:lU}{y:Er}(h:GW p s e ln co tx o l c x m k=.error y):y.2.2≠0:=by
 unfold GW at h
 split at h
 · rename_i h1;cases h;exact hp h1
 · split at h
   · rename_i h2;cases h;exact Ho h2
   · cases h
omit hp
variable{q:N2}(hq:vP q)
include hq
theorem R6:∀(k:Nd){s:CS}{e:Ba}{l:Ty}{x:Er},Ga q s e l k=.error x→x.2.2≠0
 |.nil,_,_,_,_,h=>by cases h
 |.cons op ln co tx nm k r,s,e,l,x,h=>by
   unfold Ga at h
   split at h
   · rename_i h1;cases h;exact hq h1
   · split at h
     · rename_i h2;cases h;exact Ho h2
     · exact R6 r h
theorem QB:∀(k:Nd){s:CS}{e:Ba}{x:Er},EZ q s e k=.error x→x.2.2≠0
 |.nil,_,_,_,h=>by cases h
 |.cons op ln co tx nm k r,s,e,x,h=>by
   unfold EZ at h
   split at h
   · rename_i h1;cases h;exact hq h1
   · split at h
     · rename_i h2;cases h;exact QB r h2
     · cases h
theorem bT{s:CS}{e:Ba}{op ln co:Int}{tx:lU}{x:Er}(h:CR q s e op ln co tx k=.error x):x.2.2≠0:=by
 unfold CR at h
 repeat' (split at h)
 all_goals first
   |(cases h;done)
   |(cases h;first|exact Vd (by assumption)|exact R6 hq _ (by assumption)|exact QB hq _ (by assumption))
omit hq
theorem Xi:∀n,vP (Cp n)
 |0=>λh=>by cases h;first|exact ZN|exact e4
 |n+1=>λh=>by
   unfold Cp at h
   split at h
   · rename_i h1;cases h;exact bT (Xi n) h1
   · split at h
     · rename_i h1;cases h;exact K7 h1
     · cases h
include hp
theorem LW{e:Ba}{pt:T1}:∀(k:Nd){s:CS}{t:Option T1}{x:Er},Dx n p e pt s t k=.error x→x.2.2≠0
 |.nil,_,_,_,h=>by unfold Dx at h;cases h
 |.cons _ _ _ _ _ ks r,s,t,x,h=>by
   unfold Dx at h
   split at h
   · split at h
     · rename_i h1;cases h;exact Xi _ h1
     · split at h
       · rename_i h1;cases h;exact Ho h1
       · split at h
         · rename_i h1;cases h;exact hp h1
         · split at h
           · split at h
             · rename_i h1;cases h;exact Ho h1
             · exact LW r h
           · exact LW r h
   · cases h
theorem bL{s:CS}{e:Ba}{op ln co:Int}{tx:lU}{x:Er}(h:Bi n p s e op ln co tx k=.error x):x.2.2≠0:=by
 unfold Bi at h
 by_cases o1:(op==1)=true
 · rw[if_pos o1] at h
   cases h
 rw[if_neg o1] at h
 by_cases o2:(op==2)=true
 · rw[if_pos o2] at h
   cases h
 rw[if_neg o2] at h
 by_cases o3:(op==3)=true
 · rw[if_pos o3] at h
   cases h
 rw[if_neg o3] at h
 by_cases o4:(op==4)=true
 · rw[if_pos o4] at h
   cases h
 rw[if_neg o4] at h
 by_cases o5:(op==5)=true
 · rw[if_pos o5] at h
   exact cV h
 rw[if_neg o5] at h
 by_cases o6:(op==6)=true
 · rw[if_pos o6] at h
   split at h
   · rename_i h1;cases h;exact Vd h1
   split at h
   · rename_i h1;cases h;exact Vc hp _ h1
   cases h
 rw[if_neg o6] at h
 by_cases o7:(op==7)=true
 · rw[if_pos o7] at h
   split at h
   · cases h
   simp only at h
   split at h
   · rename_i h1;cases h;exact hp h1
   cases h
 rw[if_neg o7] at h
 by_cases o8:(op==8)=true
 · rw[if_pos o8] at h
   split at h
   · cases h
   split at h
   · rename_i h1;cases h;exact hp h1
   exact YY hp _ h
 rw[if_neg o8] at h
 by_cases o9:(op==9)=true
 · rw[if_pos o9] at h
   split at h
   · split at h
     · rename_i h1;cases h;exact hp h1
     split at h
     · rename_i h1
       cases h
       split at h1
       · cases h1
       · exact P0 h1
     exact hp h
   · cases h
 rw[if_neg o9] at h
 by_cases o10:(op==10)=true
 · rw[if_pos o10] at h
   split at h
   · split at h
     · rename_i h1;cases h;exact YB hp h1
     split at h
     · rename_i h1;cases h;exact P0 h1
     exact hp h
   · cases h
 rw[if_neg o10] at h
 by_cases o11:(op==11)=true
 · rw[if_pos o11] at h
   split at h
   · split at h
     · rename_i h1;cases h;exact hp h1
     split at h
     · rename_i h1;cases h;exact Ho h1
     split at h
     · rename_i h1;cases h;exact hp h1
     split at h
     · rename_i h1;cases h;exact hp h1
     split at h
     · rename_i h1;cases h;exact Ho h1
     cases h
   · cases h
 rw[if_neg o11] at h
 by_cases o12:(op==12)=true
 · rw[if_pos o12] at h
   split at h
   · rename_i h1;cases h;exact PZ hp _ h1
   cases h
 rw[if_neg o12] at h
 by_cases o13:(op==13)=true
 · rw[if_pos o13] at h
   split at h
   · rename_i h1;cases h;exact PZ hp _ h1
   cases h
 rw[if_neg o13] at h
 by_cases o14:(op==14)=true
 · rw[if_pos o14] at h
   split at h
   · cases h
   split at h
   · rename_i h1;cases h;exact hp h1
   exact LW hp _ h
 rw[if_neg o14] at h
 by_cases o15:(op==15)=true
 · rw[if_pos o15] at h
   split at h
   · cases h
   split at h
   · rename_i h1;cases h;exact hp h1
   exact LW hp _ h
 rw[if_neg o15] at h
 by_cases o16:(op==16)=true
 · rw[if_pos o16] at h
   split at h
   · cases h
   split at h
   · rename_i h1;cases h;exact hp h1
   split at h
   · rename_i h1;cases h;exact Ho h1
   cases h
 rw[if_neg o16] at h
 split at h
 · cases h
 exact hp h
omit hp
theorem S7:∀n,vM (Cc n)
 |0=>λh=>by cases h;first|exact ZN|exact e4
 |n+1=>λh=>by
   unfold Cc at h
   split at h
   · rename_i h1;cases h;exact bL (S7 n) h1
   · split at h
     · rename_i h1;cases h;exact K7 h1
     · cases h
end
theorem Po{d:List (lU×Int)}{v:List (lU×T1)}:∀(k:Nd){x:Er},FJ d v k=.error x→x.2.2≠0
 |.nil,_,h=>by cases h
 |.cons op ln co tx nm k r,x,h=>by
   have ih1:=λ{x:Er}=>Po (d:=d) (v:=v) k (x:=x);have ih2:=λ{x:Er}=>Po (d:=d) (v:=v) r (x:=x);rw[Jo] at h
   split at h
   · rename_i h1
     cases h
     unfold CE at h1
     split at h1
     · split at h1
       · cases h1
       · cases h1;exact ZN
     · split at h1
       · split at h1
         · rename_i h2;cases h1;exact ih1 h2
         · cases h1
       · cases h1;exact ZN
   · split at h
     · rename_i h2;cases h;exact ih2 h2
     · cases h
theorem Nf{ln co:Int}:∀(k:Nd){v:Int}{m:List (lU×T1)}{self:Ty}{nums:List Int}{x:Er},DX ln co k v m self nums=.error x→x.2.2≠0
 |.nil,_,_,_,_,_,h=>by cases h
 |.cons op _ _ tx _ _ r,v,m,self,nums,x,h=>by
   unfold DX at h
   repeat' (split at h)
   · cases h;first|exact ZN|exact e4
   · exact Nf r h
   · exact Nf r h
theorem Mz{d:List (lU×Int)}{m:List (lU×T1)}{out:T1}{nums:List Int}:∀(k:Nd){c:List (lU×Mk)}{x:Er},D2 d m out nums k c=.error x→x.2.2≠0
 |.nil,_,_,h=>by cases h
 |.cons op ln co tx _ kids r,c,x,h=>by
   unfold D2 at h
   repeat' (split at h)
   · cases h;first|exact ZN|exact e4
   · rename_i h1;cases h;exact Po _ h1
   · exact Mz r h
   · exact Mz r h
variable {k:Nd}
theorem cT{s:CS}{ln co:Int}{tx:lU}{x:Er}(h:GP s ln co tx k=.error x):x.2.2≠0:=by
 unfold GP at h
 split at h
 · cases h;first|exact ZN|exact e4
 · split at h
   · rename_i h1;cases h;exact Nf _ h1
   · simp only at h
     split at h
     · rename_i h1;cases h;exact Mz _ h1
     · cases h
theorem jF{s:CS}{e:Ba}{op ln co:Int}{tx:lU}{x:Er}(h:Dp s e op ln co tx k=.error x):x.2.2≠0:=by
 unfold Dp at h
 repeat' (split at h)
 all_goals first
   |(cases h;done)
   |(cases h;first|exact ZN|exact cT (by assumption)|exact Po _ (by assumption)|exact S7 _ (by assumption)|exact Ho (by assumption)|exact YB (S7 _) (by assumption)|exact P0 (by assumption))
theorem PF:∀(k:Nd){s:CS}{e:Ba}{out:List (lU×T1)}{x:Er},DZ s e k out=.error x→x.2.2≠0
 |.nil,_,_,_,_,h=>by cases h
 |.cons op ln co tx nm k r,s,e,out,x,h=>by
   unfold DZ at h
   split at h
   · rename_i h1;cases h;exact jF h1
   · exact PF r h
   · exact PF r h
theorem X3{s:CS}:∀{l:List (lU×T1)}{x:Er},JY s l=.error x→x.2.2≠0
 | [],_,h=>by cases h
 |(n,t)::l,x,h=>by
   unfold JY at h
   split at h
   · rename_i h1;cases h;exact K7 h1
   · split at h
     · rename_i h1;cases h;exact X3 h1
     · cases h
theorem YI{x:Er}(h:C7 k=.error x):x.2.2≠0:=by
 unfold C7 at h
 split at h
 · rename_i h1;cases h;exact PF k h1
 · exact X3 h
end Go.SP
namespace Go.Proofs.YtelmolopaolbcaaGreatDoor
open Go.SW Go.SP Go.RowKit Go.Proofs.Tryz
abbrev RB:=RI (List (lU×lU))
def NC(src:lU):RB:=bif (CY src).2.2.2==0 then C7 (CY src).1 else .error ((CY src).2.1,(CY src).2.2.1,(CY src).2.2.2)
def aY:RB→Int×Int×Int
 |.error e=>e
 |.ok _=>(0,0,0)
def pI:RB→List (lU×lU)
 |.error _=>[]
 |.ok l=>l
abbrev vR(r:RB)(x:Option Addr×Nat):Value:=.tuple #[.slice x.1 (pI r).length x.2,.agg #[.int .i64 (aY r).1,.int .i64 (aY r).2.1],.int .i64 (aY r).2.2]
def vO(r:RB)(w:World)(f:Fq):Value→World→Prop:=Bw (α:=Option Addr×Nat) (vR r) (λ_=>True) (λx=>[λw f=>JC w f (pI r) x.1 x.2]) w f
variable {f:Fq}{a:Option Addr}{w w':World}{src:lU}
theorem VG.out{nds:Nd}{v:Value}(h:VG nds w f v w'):vO (C7 nds) w f v w':=by
 obtain⟨f',hE,h⟩:=h
 cases hi:C7 nds with
 |error er =>
   rw[hi] at h;exact⟨(none,0),f',h,tQ,hE,⟨Nat.zero_le _,.inl rfl⟩,tQ⟩
 |ok bs =>
   rw[hi] at h;obtain⟨a,c,h1,h2⟩:=h;exact⟨(a,c),f',h1,tQ,hE,h2,tQ⟩
theorem Xz(w:World)(f:Fq)(hv:Vl w f)(hG:ET w f)(nds:Nd)(na:Option Addr)(nc:Nat)(hwt:nds.wft)(hsz:nds.size≤200000)(htb:nds.txb)(hN:AD w f nds na nc) :
   Bo prog 12 #[.slice na nds.len nc] w (vO (C7 nds) w f):=(Th w f hv hG nds na nc hwt hsz htb hN).mono λ_ _ h=>VG.out h
theorem HD(src:lU):vT (CY src).1:=bJ 200 src
theorem QU(h:(CY src).2.2.2=0):NC src=C7 (CY src).1:=by unfold NC;rw[h];rfl
theorem YR(h:(CY src).2.2.2≠0):NC src=.error ((CY src).2.1,(CY src).2.2.1,(CY src).2.2.2):=by
 unfold NC;rw[show ((CY src).2.2.2==0)=false by simpa using h];rfl
theorem Ve:∀(a b:Nd)(x off:Nat),NX w f (a.app b) x off→NX w f a x off
 |.nil,_,_,_,_=>trivial
 |.cons _ _ _ _ _ _ r,b,x,off,⟨h1,h2⟩=>⟨h1,Ve r b x _ h2⟩
theorem len_app:∀(a b:Nd),(a.app b).len=a.len+b.len
 |.nil,b=>(Nat.zero_add _).symm
 |.cons _ _ _ _ _ _ r,b=>by show (r.app b).len+1=r.len+1+b.len;rw[len_app r b];omega
theorem dP{a b:Nd}{x:Option Addr}{c:Nat}(h:AD w f (a.app b) x c):AD w f a x c:=by
 refine⟨by have:=h.1;rw[len_app] at this;omega,?_⟩
 cases a with
 |nil=>exact .inl rfl
 |cons op ln co tx nm k r =>
   rcases h.2 with h|⟨y,off,h1,h2⟩
   · cases h
   · exact .inr ⟨y,off,h1,Ve _ b _ _ h2⟩
theorem JC.opn{l:List (lU×lU)}{c:Nat}(h:JC w f l a c)(hl:l≠[]):∃x:Nat×Nat,a=some ⟨x.1,x.2,none⟩∧Cs w f x.1 x.2 (bC l) :=
 h.2.elim (λh=>absurd h hl) λ⟨b,off,h1,h2⟩=>⟨(b,off),h1,h2⟩
end Go.Proofs.YtelmolopaolbcaaGreatDoor
namespace Go.Proofs.YtelmolopaolbcaaGreatDoor
open Go.SW Go.SP Go.RowKit Go.Lib
section
variable{P:Program}{w:World}
variable {e t:TypeId}
theorem OV{g:Nat}{k:IntKind}{zero:Array Value}(h:w.ShapedOpen P)(hg:g<P.globals.size)
   (h0:((begin P (λ_ _=>0) default).world.heap[g]?).bind Obj.row?=some (zero,t)) (hz:zero.size=1)
   (hb:P.buildable t=true) (hc:P.cellTypes P.depth t=some [t]) (hu:P.underlying t=some (.int k)):∃m,w.cell? ⟨g,0,none⟩=some (.int k m):=by
 obtain⟨cs,hh,hs,hr⟩:=h.1 g zero t hg h0;obtain⟨ts,hts,_,hall⟩:=hr hb;rw[hc] at hts
 cases hts
 have h1:0<cs.size:=oM;obtain⟨u,hu',hok⟩:=hall 0 cs[0] (by simp[h1]);have:u=t:=by simpa using hu'.symm
 subst this;have hcell:w.cell? ⟨g,0,none⟩=some cs[0]:=by simp[World.cell?,hh,h1]
 rw[hcell];unfold Cell.ok at hok;rw[hu] at hok
 cases hv:cs[0] with
 |int k' m =>
   rw[hv] at hok
   have hk:k'=k:=by
     simp at hok;exact hok.1
   exact⟨m,by rw[hk]⟩
 |_=>rw[hv] at hok;simp at hok
theorem IQ{n:String}{g:Nat}{cs:Array Value}(hg:P.globalNamed n=some g)(hv:w.var? P n=some cs)(o:Nat):w.cell? ⟨g,o,none⟩=cs.toList[o]?:=by
 rw[World.var?_cell hg hv o,Array.getElem?_toList]
theorem Td{n:String}{g:Nat}{b:Bool}(hn:P.globalNamed n=some g)(hy:(P.globals[g]?).map (·.type)=some t)(ht:P.underlying t=some .bool)(h:VarReads P w n (.lit (.bool b))):w.cell? ⟨g,0,none⟩=some (.bool b):=by
 obtain⟨g',t',cs,fuel,p,hg,hty,hvar,hd⟩:=h;obtain rfl:=Option.some.inj (hn.symm.trans hg);obtain rfl:=Option.some.inj (hy.symm.trans hty);obtain⟨b',hc,hx⟩:=DataW.trod_bool ht hd;rw[IQ hn hvar,hc]
 cases hx
 rfl
theorem Qv{n:String}{g:Nat}{ms}{d:DataW Unit}(hn:P.globalNamed n=some g)(hy:(P.globals[g]?).map (·.type)=some t)(ht:P.underlying t=some (.interface ms))(h:VarReads P w n d) :
   ∃v,w.cell? ⟨g,0,none⟩=some v∧(v=.nilIface∨∃te pe,v=.iface te pe):=by
 obtain⟨g',t',cs,fuel,p,hg,hty,hvar,hd⟩:=h;obtain rfl:=Option.some.inj (hn.symm.trans hg);obtain rfl:=Option.some.inj (hy.symm.trans hty);rw[IQ hn hvar]
 cases fuel with
 |zero=>simp[DataW.trod] at hd
 |succ fuel =>
   unfold DataW.trod at hd;rw[ht] at hd;generalize cs.toList=l at hd
   split at hd
   all_goals first
     |(rename_i heq;cases heq;done)
     |(rename_i h1 h2;cases h1;done)
     |(exact⟨_,rfl,.inl rfl⟩)
     |(exact⟨_,rfl,.inr ⟨_,_,rfl⟩⟩)
     |cases hd
theorem TP{n:String}{g:Nat}{fs:Array Field}{f:Field}{k:IntKind}{z:Int}{ds:List (DataW Unit)}(hn:P.globalNamed n=some g)(hy:(P.globals[g]?).map (·.type)=some t)(ht:P.underlying t=some (.struct fs))
   (hf:fs[0]?=some f) (hfo:f.offset=0) (hft:P.underlying f.type=some (.int k)) (hfc:P.cellsOf f.type=1) (h:VarReads P w n (.agg (.lit (.int k z)::ds))):w.cell? ⟨g,0,none⟩=some (.int k z):=by
 obtain⟨g',t',cs,fuel,p,hg,hty,hvar,hd⟩:=h;obtain rfl:=Option.some.inj (hn.symm.trans hg);obtain rfl:=Option.some.inj (hy.symm.trans hty);obtain⟨xs,m,rfl,hx,hl,hxl,hall⟩:=DataW.trod_struct ht hd;have h0:=hall 0 f hf;have e0:xs.map (·.1)=.lit (.int k z)::ds:=by have:=congrArg Prod.fst hx;simpa using this.symm
 cases xs with
 |nil=>cases e0
 |cons x xs =>
   simp only[List.map_cons,List.cons.injEq] at e0;obtain⟨z',hz,hz2,_⟩:=DataW.trod_int hft (h0.trans (by rfl));rw[IQ hn hvar]
   have hzz:z'=z:=by
     have:=hz2▸e0.1;simpa using this
   subst hzz;rw[hfo,hfc,List.drop_zero] at hz
   cases hcs:cs.toList with
   |nil=>rw[hcs] at hz;cases hz
   |cons c r=>rw[hcs] at hz;simp at hz;simp[hz]
theorem Sd{n:String}{g:Nat}{l:List (DataW Unit)}{c:Nat}{m:Int}(hn:P.globalNamed n=some g)(hy:(P.globals[g]?).map (·.type)=some t)(ht:P.underlying t=some (.array 256 e))(he:P.underlying e=some (.int .u8))(hc1:P.cellsOf e=1)
   (h:VarReads P w n (.agg l)) (hc:c<256) (hl:l[c]?=some (.lit (.int .u8 m))):w.cell? ⟨g,c,none⟩=some (.int .u8 m):=by
 obtain⟨g',t',cs,fuel,p,hg,hty,hvar,hd⟩:=h;obtain rfl:=Option.some.inj (hn.symm.trans hg);obtain rfl:=Option.some.inj (hy.symm.trans hty);obtain⟨xs,k,rfl,hx,hcl,hxl,hall⟩:=DataW.trod_array ht hd;have e0:xs.map (·.1)=l:=by have:=congrArg Prod.fst hx;simpa using this.symm
 have h1:=hall c hc;rw[hc1,Nat.mul_one] at h1;have hxc:xs[c]?=some (xs[c]'oM):=List.getElem?_eq_getElem oM;rw[hxc] at h1;obtain⟨z,hz,hz2,_⟩:=DataW.trod_int he h1;have e1:l[c]?=some ((xs[c]'oM).1):=by rw[← e0,List.getElem?_map,hxc];rfl
 rw[e1,hz2] at hl;have hzm:z=m:=by simpa using hl
 subst hzm;rw[IQ hn hvar];have h2:((cs.toList.drop c).take 1)[0]?=some (.int .u8 z):=by rw[hz];rfl
 rw[List.getElem?_take] at h2;simpa using h2
theorem Pl{n:String}{g:Nat}{k:FloatKind}{l:List Nat}(hn:P.globalNamed n=some g)(hy:(P.globals[g]?).map (·.type)=some t)(ht:P.underlying t=some (.slice e))(he:P.underlying e=some (.float k))(hc:P.cellsOf e=1)
   (hl:0<l.length) (h:VarReads P w n (.slice (l.map λx=>.lit (.float k x)) [])):∃b off len cap,w.cell? ⟨g,0,none⟩=some (.slice (some ⟨b,off,none⟩) len cap)∧l.length≤len∧∀(j v:Nat),l[j]?=some v→w.cell? ⟨b,off+j,none⟩=some (.float k v):=by
 obtain⟨g',t',cs,fuel,p,hg,hty,hvar,hd⟩:=h;obtain rfl:=Option.some.inj (hn.symm.trans hg);obtain rfl:=Option.some.inj (hy.symm.trans hty);rcases DataW.trod_slice ht hd with ⟨_,hx⟩|⟨a,len,cap,el,rs,m,rfl,hcs,hx,_,hlc,_,hel,helem,hsp,_⟩
 · cases hx
 have e0:=congrArg Prod.fst hx;simp only[DataW.slice.injEq] at e0;have hlen:len=l.length:=by have:=congrArg List.length e0.1;simp at this;omega
 have hcell:∀(j v:Nat),l[j]?=some v→w.cell? (a.add j)=some (.float k v):=by
   intro j v hv;obtain⟨hj,hjv⟩:=List.getElem?_eq_some_iff.1 hv;have h1:=helem j oM;rw[hc,Nat.mul_one] at h1;obtain⟨b,hb⟩:∃b,el[j]?=some b:=⟨el[j]'oM,List.getElem?_eq_getElem oM⟩;rw[hb] at h1;obtain⟨ce,hce,hte⟩:=Option.bind_eq_some_iff.1 h1
   have hb1:b.1=.lit (.float k v):=by
     have:=congrArg (·[j]?) e0.1;simp[hb,hv] at this;exact this.symm
   have hce2:ce=[.float k v]:=by
     cases m with
     |zero=>simp[DataW.trod] at hte
     |succ m =>
       unfold DataW.trod at hte;rw[he] at hte
       split at hte <;> simp_all
       obtain⟨⟨rfl,_⟩,rfl⟩:=hte;simpa using hb1
   obtain⟨_,_,hcc⟩:=World.cells?_some hce;have h0:=hcc 0 oM;rw[hce2] at h0;have e1:(a.add j).add 0=a.add j:=by simp[Addr.add]
   rw[e1] at h0;exact h0
 obtain⟨R,o,sR⟩:=a
 obtain rfl:sR=none:=by
   obtain⟨v0,hv0⟩:∃v,l[0]?=some v:=⟨l[0],List.getElem?_eq_getElem hl⟩;have h00:=hcell 0 v0 hv0;have:(Addr.add ⟨R,o,sR⟩ 0)=⟨R,o,sR⟩:=by simp[Addr.add]
   rw[this] at h00;exact Go.Proofs.cell_spot h00
 refine⟨R,o,len,cap,?_,oM,λj v hv=>?_⟩
 · rw[IQ hn hvar,hcs];rfl
 · have:=hcell j v hv
   rwa[Ed] at this
end
end Go.Proofs.YtelmolopaolbcaaGreatDoor
namespace Go.SW
open Go.RowKit
def YM(w:World):Fq:=λb=>match w.heap[b]? with
 |some (.cells cs _ _)=>cs.size
 |_=>0
theorem Ur(w:World):Vl w (YM w):=λb h=>by
 unfold YM;rw[Array.getElem?_eq_none h]
variable {b o:Nat}{w:World}
theorem K9{v:Value}(h:w.cell? ⟨b,o,none⟩=some v):o<YM w b:=by
 unfold YM;unfold World.cell? at h
 cases hb:w.heap[b]? with
 |none=>rw[hb] at h;cases h
 |some x =>
   rw[hb] at h
   cases x with
   |cells c e fr=>simpa using (Array.getElem?_eq_some_iff.1 h).1
   |_=>cases h
end Go.SW
namespace Go.Proofs.YtelmolopaolbcaaGreatDoor
open Go.SW Go.SP Go.RowKit Go.Lib Go.ChangeShapes Go.WideShapes Go.ChangeAt
theorem own:ownKnob Tryz.prog.godebug=none:=kR
def SJ:List Nat:=[4607182418800017408,4621819117588971520,4636737291354636288,4652007308841189376,4666723172467343360,4681608360884174848,4696837146684686336,4711630319722168320,4726483295884279808,4741671816366391296,4756540486875873280,4771362005757984768,4786511204640096256,4801453603149578240,4816244402031689728,4831355200913801216,4846369599423283200,4861130398305394688,4876203697187506176,4891288408196988160,4906019910204099648,4921056587992461136,4936209963552724370]
variable {args:Array Value}{fid:FuncId}{j:Nat}{W:World}
theorem VR{v:Nat}(h:FR[j]?=some v):SJ[j]?=some v:=by
 have e:FR=SJ.take 15:=rfl;rw[e,List.getElem?_take] at h
 split at h
 · exact h
 · cases h
abbrev U3:List (String×DataW Unit):=Rows.schemaDeepRow.laid
theorem KI(k:Nat){n:String}{d:DataW Unit}(h:laidMet Tryz.prog U3 W)(hk:U3[k]?=some (n,d):=by rfl):VarReads Tryz.prog W n d:=laidMet.reads h (List.mem_of_getElem? hk)
theorem jH:(Rows.laid_strings_asciiSpace:DataW Unit)=.agg ((List.range 256).map λc=>.lit (.int .u8 (if Lib.isSp (UInt8.ofNat c) then 1 else 0))):=kR
theorem rL(h:laidMetH Tryz.prog U3 W)(hS:W.ShapedOpen Tryz.prog):Gl W∧∀c:Nat,c<256→W.cell? ⟨0,c,none⟩=some (.int .u8 (if Lib.isSp (UInt8.ofNat c) then 1 else 0)):=by
 rw[MakeChecks.laidMetH_plain _ _ _ (by kernel_rfl)] at h;refine⟨⟨?_,?_,?_,?_,?_⟩,?_⟩
 · exact OV (t:=3) (zero:=#[.int .i64 0]) hS (of_decide_eq_true kR) kR kR kR kR Tryz.underlying3
 · obtain⟨ms,hm⟩:=H3 (show Zu Tryz.prog 184=true by kernel_rfl)
   exact Qv (t:=184) kR kR hm (KI 10 h)
 · exact Td (t:=4) kR kR Tryz.underlying4 (KI 4 h)
 · exact TP (t:=298) kR kR (fs:=Tryz.prog.fieldsOf 298) kR (f:=(Tryz.prog.fieldsOf 298)[0]!) kR kR kR kR
     (KI 3 h)
 · obtain⟨b,off,n,c,h1,h2,h3⟩:=Pl (l:=SJ) kR kR (t:=333) (e:=213) kR kR kR dC (KI 6 h)
   exact⟨b,off,n,c,h1,Nat.le_trans dC h2,λj v hv=>h3 j v (VR hv)⟩
 · intro c hc
   have hr:=KI 13 h;rw[jH] at hr;exact Sd (t:=196) (e:=5) kR kR kR kR kR hr hc (by rw[List.getElem?_map,List.getElem?_range hc];rfl)
theorem fG(h:laidMetH Tryz.prog U3 W)(hS:W.ShapedOpen Tryz.prog):Db W (YM W)∧ET W (YM W):=by
 obtain⟨⟨⟨m,hm⟩,⟨v,h1,h2⟩,h3,h4,⟨b,off,n,c,h5,h6,h7⟩⟩,h8⟩:=rL h hS;refine⟨λw' f' hF=>?_,⟨m,λj v hj=>?_⟩,λc hc=>⟨K9 (h8 c hc),h8 c hc⟩⟩
 · have k:∀{b o:Nat}{v:Value},W.cell? ⟨b,o,none⟩=some v→w'.cell? ⟨b,o,none⟩=some v:=λ{b o v} h=>((hF b).2 o (K9 h)).trans h
   exact⟨⟨m,k hm⟩,⟨v,k h1,h2⟩,k h3,k h4,⟨b,off,n,c,k h5,h6,λj v hv=>k (h7 j v hv)⟩⟩
 · cases j with
   |zero=>cases hj;exact⟨K9 hm,hm⟩
   |succ j=>cases hj
theorem Xg(h:Bo Tryz.prog fid args W (Bw (α:=Unit) (λ_=>.bool true) (λ_=>True) (λ_=>[]) W (YM W))):Bo Tryz.prog fid args W λv w'=>v=.bool true∧AS W w' :=
 h.mono λ_ _ ⟨_,_,h1,_,h2,_⟩=>⟨h1,h2.stp.ext⟩
end Go.Proofs.YtelmolopaolbcaaGreatDoor
namespace Go.SP
structure H7 where
 met:List lU
 keeps:Bool
def J1:List lU→lU→Int
 | [],_ => -1
 |k::l,n=>if k==n then 0 else (let j:=J1 l n;if j<0 then j else j+1)
def aD(vars:List lU)(tx:lU):lU:=39::(Utf8.encode (97+J1 vars tx)).data.toList
def Ck(dn:lU→Bool)(tx:lU)(s:H7):H7 :=
 ⟨if dn tx&&!s.met.contains tx then s.met++[tx] else s.met,s.keeps&&!(tx==El)&&!(tx==I0)⟩
def allS(dn:lU→Bool)(vars:List lU):Nd→H7→lU×H7
 |.nil,s=>([],s)
 |.cons op _ _ tx _ k r,s =>
   let a:=if op==31 then (aD vars tx,s)
     else if k.len=0 then (tx,Ck dn tx s)
     else ([40]++tx++(allS dn vars k (Ck dn tx s)).1++[41],(allS dn vars k (Ck dn tx s)).2)
   let b:=allS dn vars r a.2
   (32::(a.1++b.1),b.2)
def CZ(dn:lU→Bool)(vars:List lU)(op:Int)(tx:lU)(k:Nd)(s:H7):lU×H7 :=
 if op==31 then (aD vars tx,s)
 else if k.len=0 then (tx,Ck dn tx s)
 else ([40]++tx++(allS dn vars k (Ck dn tx s)).1++[41],(allS dn vars k (Ck dn tx s)).2)
def C9:Nd→List lU×Nd×Nd
 |.nil=>([],.nil,.nil)
 |.cons op ln co tx nm k r=>if op==31 then (tx::(C9 r).1,.cons op ln co tx nm k (C9 r).2.1,(C9 r).2.2) else ([],.nil,.cons op ln co tx nm k r)
def FF(dn:lU→Bool)(vars:List lU):Nd→H7→List lU×H7
 |.nil,s=>([],s)
 |.cons _ _ _ tx _ k r,s=>((tx++(allS dn vars k s).1)::(FF dn vars r (allS dn vars k s).2).1,(FF dn vars r (allS dn vars k s).2).2)
def Gb:List lU→lU
 | []=>[]
 | [a]=>a
 |a::b::l=>a++44::Gb (b::l)
def FX(dn:lU→Bool)(tx:lU)(k:Nd)(s:H7):lU×H7 :=
 let v:=C9 k
 let c:=FF dn v.1 v.2.2 s
 ([124]++tx++(allS dn v.1 v.2.1 c.2).1++[61]++Gb c.1,(allS dn v.1 v.2.1 c.2).2)
def Cv:Nd→List (lU×Nd)
 |.nil=>[]
 |.cons op _ _ tx _ k r=>if op==41 then Cv r++[(tx,k)] else Cv r
def Bg(ds:List (lU×Nd))(tx:lU):Bool:=(AR ds tx).isSome
def Kl(ds:List (lU×Nd)):Nat→Nat→lU→H7→lU×H7
 |0,_,t,s=>(t,s)
 |n+1,i,t,s=>match s.met[i]? with
   |none=>(t,s)
   |some d=>Kl ds n (i+1) (t++(FX (Bg ds) d ((AR ds d).getD .nil) s).1) (FX (Bg ds) d ((AR ds d).getD .nil) s).2
def Nb(ds:List (lU×Nd))(op:Int)(tx:lU)(k:Nd):lU×H7 :=
 Kl ds (ds.length+1) 0 (CZ (Bg ds) [] op tx k ⟨[],true⟩).1 (CZ (Bg ds) [] op tx k ⟨[],true⟩).2
def Qr(ds:List (lU×Nd)):Nd→List (lU×lU)→Except Er (List (lU×lU))
 |.nil,out=>.ok out
 |.cons op ln co tx _ k r,out=>if op==43 then (if (out.length:Int)==100 then .error (ln,co,4) else match k with
     |.nil=>Qr ds r out
     |.cons o l c x _ k1 _=>let w:=Nb ds o x k1
       if !w.2.keeps then .error (l,c,17) else if w.1.length>1000 then .error (l,c,4) else Qr ds r (out++[(tx,w.1)]))
   else Qr ds r out
def aO(nds:Nd):Except Er (List (lU×lU)):=Qr (Cv nds) nds []
end Go.SP
namespace Go.Proofs.YtelmolopaolbcaaGreatDoor
open Go.SW Go.SP Go.RowKit
def FK(src:lU):Option RB:=match NC src with
 |.error _=>none
 |.ok _=>some (aO (CY src).1)
def wR(o:Option RB)(x:Option Addr×Nat):Value:=match o with
 |none=>.tuple #[.slice none 0 0,.agg #[.int .i64 0,.int .i64 0],.int .i64 0,.bool false]
 |some r=>.tuple #[.slice x.1 (pI r).length x.2,.agg #[.int .i64 (aY r).1,.int .i64 (aY r).2.1],.int .i64 (aY r).2.2,.bool true]
def wO:Option RB→List (lU×lU)
 |none=>[]
 |some r=>pI r
def wG(o:Option RB)(w:World)(f:Fq):Value→World→Prop:=Bw (α:=Option Addr×Nat) (wR o) (λ_=>True) (λx=>[λw f=>JC w f (wO o) x.1 x.2]) w f
def Xq:lU:=[40,100,97,116,97,32,108,105,115,116,32,40,39,120,41,32,40,78,105,108,41,32,40,67,111,110,115,32,39,120,32,40,108,105,115,116,32,39,120,41,41,41,32,40,114,111,111,116,32,114,32,40,108,105,115,116,32,105,110,116,41,32,78,105,108,41]
def XU:lU:=[40,114,111,111,116,32,114,32,40,45,62,32,105,110,116,32,105,110,116,41,32,110,101,103,41]
def kW:List (lU×lU):=[([114],[40,108,105,115,116,32,105,110,116,41,124,108,105,115,116,32,39,97,61,78,105,108,44,67,111,110,115,32,39,97,32,40,108,105,115,116,32,39,97,41])]
set_option maxRecDepth 100000 in
theorem mJ:FK Xq=some (.ok kW):=kR
set_option maxRecDepth 100000 in
theorem lN:FK XU=some (.error (1,9,17)):=kR
end Go.Proofs.YtelmolopaolbcaaGreatDoor
namespace Go.SP
open Go.SW Go.RowKit
def fJ(w:World)(l:List lU)(a:Option Addr)(c:Nat):Prop:=l.length≤c∧(l=[]∨∃b off,a=some ⟨b,off,none⟩∧∀j v,(l.map S)[j]?=some v→w.cell? ⟨b,off+j,none⟩=some v)
def Ig(w:World)(f:Fq)(l:List lU)(a:Option Addr)(c:Nat):Prop:=l.length≤c∧(l=[]∨∃b off,a=some ⟨b,off,none⟩∧Cs w f b off (l.map S))
section
variable{w:World}{f:Fq}{l:List lU}{a:Option Addr}{c:Nat}
theorem Ig.mono:Fc (λw f=>Ig w f l a c):=λ_ _ _ _ h hF=>⟨h.1,h.2.imp id λ⟨b,off,h1,h2⟩=>⟨b,off,h1,h2.mono hF⟩⟩
theorem Ig.sw(h:Ig w f l a c):fJ w l a c:=⟨h.1,h.2.imp id λ⟨b,off,h1,h2⟩=>⟨b,off,h1,λj v hj=>(h2 j v hj).2⟩⟩
theorem fJ.fz(h:fJ w l a c):Ig w (YM w) l a c:=⟨h.1,h.2.imp id λ⟨b,off,h1,h2⟩=>⟨b,off,h1,λj v hj=>⟨K9 (h2 j v hj),h2 j v hj⟩⟩⟩
theorem Ig.get(h:Ig w f l a c){i:Nat}{x:lU}(hx:l[i]?=some x):∃b off,a=some ⟨b,off,none⟩∧Cs w f b (off+i*1) [S x]:=by
 rcases h.2 with h|⟨b,off,h1,h2⟩
 · subst h;cases hx
 · refine⟨b,off,h1,λj v hj=>?_⟩
   cases j with
   |zero =>
     cases hj
     have:=h2 i (S x) (by rw[List.getElem?_map,hx];rfl);rw[Nat.mul_one,Nat.add_zero];exact this
   |succ j=>cases hj
theorem fJ.row{e:TypeId}(h:BP w e 1 a c l.length (l.map S)):fJ w l a c:=by
 rcases h.2 with ⟨_,_,hz⟩|⟨b,q,ha,hb,hmc,_,hq,ht⟩
 · exact⟨oM,.inl (by cases l with|nil=>rfl|cons _ _=>simp at hz)⟩
 · refine⟨hmc,.inr ⟨b,0,ha,λj v hj=>?_⟩⟩
   rw[Nat.zero_add,hb.cell];have hj2:=hj;rw[← ht,List.getElem?_take] at hj2
   split at hj2
   · exact hj2
   · cases hj2
end
theorem X2{X:Cx}{w:World}{f:Fq}{H:List HB}{R:List RB}{B:List FB}{Fs:List (World→Fq→Prop)}{T:TypeId}{a:Option Addr}{c:Nat}{l:List lU}(hM:AO X w f H (⟨T,1,a,c,l.length,l.map S⟩::R) B Fs):∃f',AO X w f' H R B Fs∧Ig w f' l a c:=by
 have hr:=hM.row _ (.head _);rcases hr.2 with ⟨_,_,hz⟩|⟨b,q,ha,hb,hmc,_,hq,ht⟩
 · simp only at hz
   exact⟨f,hM.less (List.Sublist.refl _) (List.sublist_cons_self _ _) (λ_ h=>h) (λ_ h=>h),oM,.inl (by cases l with|nil=>rfl|cons _ _=>simp at hz)⟩
 · simp only at ha
   subst ha;obtain⟨f',hM'⟩:=hM.done (i:=0) rfl rfl;refine⟨f',hM'.less (List.Sublist.refl _) (List.Sublist.refl _) (λ_ h=>.tail _ h) (λ_ h=>h),hmc,.inr ⟨b,0,rfl,hM'.fro _ (.head _)⟩⟩
def FT(w:World)(f:Fq):List (lU×Nd)→List (lU×Value)→Prop
 | [],es=>es=[]
 |(k,x)::l,es=>∃op ln co nm a c es',es=(k,.agg (Kc op ln co k nm a x.len c).toArray)::es'∧AD w f x a c∧FT w f l es'
theorem FT.mono{w w':World}{f f':Fq}(hF:Hp w f w' f'):∀(l:List (lU×Nd))(es:List (lU×Value)),FT w f l es→FT w' f' l es
 | [],_,h=>h
 |(_,_)::l,_,⟨op,ln,co,nm,a,c,es',h1,h2,h3⟩=>⟨op,ln,co,nm,a,c,es',h1,AD.mono _ _ _ _ h2 hF,FT.mono hF l es' h3⟩
theorem FT.look{w:World}{f:Fq}{n:lU}:∀{l:List (lU×Nd)}{es:List (lU×Value)},FT w f l es→(AR l n=none→Em es n=none)∧∀x,AR l n=some x→∃op ln co nm a c,Em es n=some (.agg (Kc op ln co n nm a x.len c).toArray)∧AD w f x a c
 | [],es,h=>by
   have h:es=[]:=h;subst h;exact⟨λ_=>rfl,λt h=>by cases h⟩
 |(k,x)::l,es,⟨op,ln,co,nm,a,c,es',h1,h2,h3⟩=>by
   subst h1;have ih:=FT.look (n:=n) h3;simp only[AR,Em]
   by_cases hk:k=n
   · subst hk
     refine⟨λh=>by simp at h,λt' h=>?_⟩;simp at h;subst h;exact⟨op,ln,co,nm,a,c,by simp,h2⟩
   · have e1:(k==n)=false:=by simpa using hk
     have e2:(n==k)=false:=by simpa using λe:n=k=>hk e.symm
     rw[e1,e2];simpa using ih
def Fh(wb mb:Nat)(a:Option Addr)(b:Nat):Prop:=b=wb∨b=mb∨rb a=some b
structure Gw(T e:TypeId)(wb mb:Nat)(ds:List (lU×Nd))(sl kp:Value)(a:Option Addr)(c:Nat)(l:List lU)(w:World)(f:Fq):Prop where
 blk:AI w wb [.map (some mb),sl,kp] T
 map:∃es,BE BI w mb es∧FT w f ds es∧Iw es
 row:BP w e 1 a c l.length (l.map S)
 ne:wb≠mb∧rb a≠some wb∧rb a≠some mb
section
variable{T e:TypeId}{wb mb:Nat}{ds:List (lU×Nd)}{sl sl' kp kp':Value}{a a':Option Addr}{c c':Nat}{l:List lU}{w w':World}{f f':Fq}{x:lU}
theorem Gw.stab:EV (Fh wb mb a) (Gw T e wb mb ds sl kp a c l):=λ_ _ _ _ h hF hb =>
 ⟨(hb wb (.inl rfl)).trans h.blk,let ⟨es,h1,h2,h3⟩:=h.map;⟨es,h1.heap (hb mb (.inr (.inl rfl))),FT.mono hF _ _ h2,h3⟩,⟨h.row.1,h.row.2.imp id λ⟨b,q,h1,h2,h3⟩=>⟨b,q,h1,(hb b (.inr (.inr (by rw[h1];rfl)))).trans h2,h3⟩⟩,h.ne⟩
variable {b:Nat}
theorem Gw.lt(h:Gw T e wb mb ds sl kp a c l w f)(hb:Fh wb mb a b):b<w.heap.size:=by
 rcases hb with rfl|rfl|hb
 · exact h.blk.lt
 · obtain⟨_,h1,_⟩:=h.map;exact h1.lt
 · exact h.row.lt hb
theorem Gw.app(h:Gw T e wb mb ds sl kp a c l w f)(hF:Hp w f w' f')(hr:BP w' e 1 a' c' (l.length+1) (l.map S++[S x]))(hG:EB a w a' w'):Gw T e wb mb ds sl kp a' c' (l++[x]) w' f' where
 blk:=h.blk.grow hG (λe=>h.ne.2.1 e.symm)
 map:=let ⟨es,h1,h2,h3⟩:=h.map;⟨es,h1.heap (hG.block mb h1.lt (λe=>h.ne.2.2 e.symm)),FT.mono hF _ _ h2,h3⟩
 row:=by simpa using hr
 ne:=⟨h.ne.1,λe=>hG.own.elim (λo=>h.ne.2.1 (o.symm.trans e)) (λo=>absurd h.blk.lt (by rw[← Option.some.inj (o.symm.trans e)];exact Nat.lt_irrefl _)),λe=>hG.own.elim (λo=>h.ne.2.2 (o.symm.trans e)) (λo=>absurd (h.lt (.inr (.inl rfl))) (by rw[← Option.some.inj (o.symm.trans e)];exact Nat.lt_irrefl _))⟩
theorem Gw.store(h:Gw T e wb mb ds sl kp a c l w f)(hF:Hp w f w' f')(hC:FZ wb w w')(hb:AI w' wb [.map (some mb),sl',kp'] T):Gw T e wb mb ds sl' kp' a c l w' f' where
 blk:=hb
 map:=let ⟨es,h1,h2,h3⟩:=h.map;⟨es,h1.heap (hC.block mb (λe=>h.ne.1 e.symm)),FT.mono hF _ _ h2,h3⟩
 row:=BP.chgB h.row hC h.ne.2.1
 ne:=h.ne
end
variable {b:Nat}
theorem Fh.or{wb mb:Nat}{a a':Option Addr}(h:Fh wb mb a' b):Fh wb mb a b∨rb a'=some b:=h.elim (λh=>.inl (.inl h)) λh=>h.elim (λh=>.inl (.inr (.inl h))) .inr
abbrev LC(T e:TypeId)(wb mb:Nat)(ds:List (lU×Nd))(s:H7)(a:Option Addr)(c:Nat):World→Fq→Prop:=Gw T e wb mb ds (.slice a s.met.length c) (.bool s.keeps) a c s.met
def Nd.cap:Nd→Nat
 |.nil=>0
 |.cons _ _ _ tx _ k r=>tx.length+8+k.cap+r.cap
theorem Nd.cap_le:∀k:Nd,k.txb→k.cap≤100008*k.size
 |.nil,_=>Nat.zero_le _
 |.cons _ _ _ tx _ k r,h=>by
   have h1:=Nd.cap_le k h.2.1;have h2:=Nd.cap_le r h.2.2;have h3:=h.1;simp only[Nd.cap,Nd.size];omega
end Go.SP
namespace Go.SW
open Go.RowKit Go.SP
section
variable{P:Program}{n:Nat}{Q:AU}{ds:List Deferred}{X:Cx}{R:List RB}{B:List FB}{Fs:List (World→Fq→Prop)}{fs:List Fr}{σ:Bb}{H:List HB}{k:JZ}{na:Option Addr}{i c:Nat}
theorem wF{l:List lU}{v:lU}(j:Nat)(hj:nth Fs j=some (λw f=>Ig w f l na c))(hx:l[i]?=some v)
   (h:∀x:Nat×Nat,na=some ⟨x.1,x.2,none⟩→A3 P n Q ds X R (⟨x.1,x.2+i*1,[S v]⟩::B) Fs k fs σ H):A3 P n Q ds X R B Fs k fs σ H :=
 KP (α:=Nat×Nat) (λx=>na=some ⟨x.1,x.2,none⟩) (λ_=>[_]) (λ_=>[]) (λ_ _ hM=>let ⟨b,off,h1,h2⟩:=Ig.get (hM.fn hj) hx;⟨(b,off),h1,oE h2,nE⟩) (λ_=>Ax.mem tQ) h
end
end Go.SW
namespace Go.SP
open Go.SW Go.RowKit
theorem PU{x:lU}:∀{l:List lU}{i:Nat},(l.take i).contains x=false→l[i]?=some x→J1 l x=i
 |a::l,0,_,h=>by
   simp only[List.getElem?_cons_zero,Option.some.injEq] at h;subst h;unfold J1;rw[if_pos (by simp)];rfl
 |a::l,i+1,hn,h=>by
   rw[List.take_succ_cons,List.contains_cons,Bool.or_eq_false_iff] at hn;have ih:=PU hn.2 (by simpa using h);unfold J1;rw[if_neg (by intro e;have:=beq_iff_eq.1 e;subst this;simp at hn),ih];simp only;rw[if_neg (by omega)];omega
theorem MR{x:lU}:∀{l:List lU},l.contains x=false→J1 l x = -1
 | [],_=>rfl
 |a::l,h=>by
   rw[List.contains_cons,Bool.or_eq_false_iff] at h;unfold J1;rw[if_neg (by intro e;have:=beq_iff_eq.1 e;subst this;simp at h),MR h.2];rfl
theorem Rz(l:List lU)(x:lU) : -1≤J1 l x∧J1 l x<l.length∧(decide (0≤J1 l x)=l.contains x):=by
 cases hc:l.contains x with
 |false=>rw[MR hc];exact⟨Int.le_refl _,oM,rfl⟩
 |true =>
   have h1:∃i,l[i]?=some x∧(l.take i).contains x=false:=by
     induction l with
     |nil=>cases hc
     |cons a l ih =>
       by_cases e:x=a
       · exact⟨0,by rw[e];rfl,rfl⟩
       · rw[List.contains_cons,show (x==a)=false by simpa using e,Bool.false_or] at hc
         obtain⟨i,h1,h2⟩:=ih hc;exact⟨i+1,by simpa using h1,by rw[List.take_succ_cons,List.contains_cons,show (x==a)=false by simpa using e,h2];rfl⟩
   obtain⟨i,h1,h2⟩:=h1;rw[PU h2 h1];have:=(List.getElem?_eq_some_iff.1 h1).1;exact⟨oM,oM,by simp⟩
theorem Vo(n:Int):(Utf8.encode n).data.toList.length≤4:=by
 unfold Utf8.encode;generalize (if Utf8.valid n=true then n.toNat else Utf8.runeError)=c
 by_cases h1:c<0x80
 · simp[h1]
 · by_cases h2:c<0x800
   · simp[h1,h2]
   · by_cases h3:c<0x10000
     · simp[h1,h2,h3]
     · simp[h1,h2,h3]
theorem Si(vs:List lU)(x:lU):(aD vs x).length≤5:=by
 unfold aD;have:=Vo (97+J1 vs x);simp only[List.length_cons];omega
theorem EB.fle{a a':Option Addr}{w w':World}{f:Fq}(hG:EB a w a' w')(hv:Vl w f)(h0:∀b,rb a=some b→f b=0):Hp w f w' f:=λb=>⟨Nat.le_refl _,λo ho=>by
 have hb:b<w.heap.size:=by
   rcases Nat.lt_or_ge b w.heap.size with h|h
   · exact h
   · have:=hv b h;omega
 exact Di (hG.block b hb (λe=>by rw[h0 b e.symm] at ho;omega)) o⟩
variable {b:Nat}
theorem Kr{w w':World}{f:Fq}(hC:FZ b w w')(h0:f b=0):Hp w f w' f:=λk=>⟨Nat.le_refl _,λo ho=>Di (hC.block k (λe=>by rw[e,h0] at ho;omega)) o⟩
theorem Mp(dn:lU→Bool)(tx:lU)(s:H7):(Ck dn tx s).met.length≤s.met.length+1:=by
 unfold Ck;simp only
 split <;> simp
theorem Ea(dn:lU→Bool)(vs:List lU):∀(k:Nd)(s:H7),(allS dn vs k s).1.length≤k.cap∧(allS dn vs k s).2.met.length≤s.met.length+k.size
 |.nil,s=>⟨Nat.le_refl _,Nat.le_refl _⟩
 |.cons op ln co tx nm k r,s=>by
   have hv:=Si vs tx;have hm:=Mp dn tx s;have hk:=Ea dn vs k (Ck dn tx s);unfold allS;simp only
   split
   · have hr:=Ea dn vs r s
     simp only[List.length_cons,List.length_append,Nd.cap,Nd.size] at hr ⊢;omega
   · split
     · have hr:=Ea dn vs r (Ck dn tx s)
       simp only[List.length_cons,List.length_append,Nd.cap,Nd.size] at hr ⊢;omega
     · have hr:=Ea dn vs r (allS dn vs k (Ck dn tx s)).2
       simp only[List.length_cons,List.length_append,List.length_nil,Nd.cap,Nd.size] at hr ⊢;omega
theorem Oz(dn:lU→Bool)(vs:List lU)(op ln co nm:Int)(tx:lU)(k r:Nd)(s:H7):allS dn vs (.cons op ln co tx nm k r) s=(32::((CZ dn vs op tx k s).1++(allS dn vs r (CZ dn vs op tx k s).2).1),(allS dn vs r (CZ dn vs op tx k s).2).2):=by
 unfold CZ
 conv=>lhs;unfold allS
end Go.SP
namespace Go.SP
open Go.SW Go.RowKit
theorem aL{n:Int}(h : -2147483648≤n∧n<2147483648):IntKind.i32.wrap n=n:=by
 unfold IntKind.wrap;simp[IntKind.bits,IntKind.signed];omega
theorem gH(n:Int):Utf8.encode n=⟨(Utf8.encode n).data.toList.toArray⟩:=by simp
def UD(P:Program)(fid:FuncId)(T e:TypeId)(m:Nat):Prop:=∀(w:World)(f:Fq)(_:Vl w f)(wb mb:Nat)(ds:List (lU×Nd))(s:H7)(oa:Option Addr)(oc:Nat),LC T e wb mb ds s oa oc w f→(∀b,Fh wb mb oa b→f b=0)→∀(op ln co nm:Int)(tx:lU)(k:Nd)(na:Option Addr)(nc:Nat)(vs:List lU)(va:Option Addr)(vc:Nat),
 k.size<m→k.size≤200000→tx.length≤100000→k.txb→s.met.length+k.size+1≤1000000→vs.length≤1000000→AD w f k na nc→Ig w f vs va vc →
 Bo P fid #[.pointer (some ⟨wb,0,none⟩),.agg #[.int .i64 op,.int .i64 ln,.int .i64 co,S tx,.int .i64 nm,.slice na k.len nc],.slice va vs.length vc] w (JG (α:=Option Addr×Nat) (λ_=>S (CZ (Bg ds) vs op tx k s).1) (λ_=>True) (Fh wb mb oa) (λx=>Fh wb mb x.1) (λx=>LC T e wb mb ds (CZ (Bg ds) vs op tx k s).2 x.1 x.2) (λ_=>[]) w f)
def pJ(P:Program)(fid:FuncId)(T e:TypeId)(m:Nat):Prop:=∀(w:World)(f:Fq)(_:Vl w f)(wb mb:Nat)(ds:List (lU×Nd))(s:H7)(oa:Option Addr)(oc:Nat),LC T e wb mb ds s oa oc w f→(∀b,Fh wb mb oa b→f b=0)→∀(k:Nd)(na:Option Addr)(nc:Nat)(vs:List lU)(va:Option Addr)(vc:Nat),
 k.size≤m→k.size≤200000→k.txb→s.met.length+k.size≤1000000→vs.length≤1000000→AD w f k na nc→Ig w f vs va vc →
 Bo P fid #[.pointer (some ⟨wb,0,none⟩),.slice na k.len nc,.slice va vs.length vc] w (JG (α:=Option Addr×Nat) (λ_=>S (allS (Bg ds) vs k s).1) (λ_=>True) (Fh wb mb oa) (λx=>Fh wb mb x.1) (λx=>LC T e wb mb ds (allS (Bg ds) vs k s).2 x.1 x.2) (λ_=>[]) w f)
end Go.SP
namespace Go.SP
theorem Ol(dn:lU→Bool)(vs:List lU)(op:Int)(tx:lU)(k:Nd)(s:H7):(CZ dn vs op tx k s).1.length≤tx.length+7+k.cap∧(CZ dn vs op tx k s).2.met.length≤s.met.length+k.size+1:=by
 have hv:=Si vs tx;have hm:=Mp dn tx s;have hk:=Ea dn vs k (Ck dn tx s);unfold CZ
 split
 · simp only;omega
 · split
   · simp only;omega
   · simp only[List.length_append,List.length_cons,List.length_nil];omega
end Go.SP
namespace Go.SP
open Go.SW Go.RowKit
variable {co ln nm:Int}{m:Nat}{r:Nd}{lo:Operand}{ty:TypeId}
theorem VS{op:Int}{tx:lU}{k:Nd}(h:(op==31)=true):C9 (.cons op ln co tx nm k r)=(tx::(C9 r).1,.cons op ln co tx nm k (C9 r).2.1,(C9 r).2.2):=by
 rw[C9,if_pos h]
theorem VZ{op:Int}{tx:lU}{k:Nd}(h:(op==31)=false):C9 (.cons op ln co tx nm k r)=([],.nil,.cons op ln co tx nm k r):=by
 rw[C9,if_neg (by rw[h];decide)]
theorem Kw:∀l:List lU,Gb l=Lib.join l [44]
 | []=>rfl
 | [a]=>by rw[Lib.join_cons];simp[Gb,Lib.joinTail]
 |a::b::l=>by rw[Gb,Kw (b::l),Lib.join_cons,Lib.join_cons];simp[Lib.joinTail]
theorem Tu(l:List lU)(x:lU):(Gb (l++[x])).length≤(Gb l).length+1+x.length:=by
 cases l with
 |nil=>show x.length≤_;omega
 |cons a l =>
   rw[List.cons_append,Kw,Kw,Lib.join_cons,Lib.join_cons,Nn];simp only[List.length_append,List.length_cons,List.length_nil];omega
theorem NA(dn:lU→Bool)(vs:List lU)(op ln co nm:Int)(tx:lU)(k r:Nd)(s:H7):FF dn vs (.cons op ln co tx nm k r) s=((tx++(allS dn vs k s).1)::(FF dn vs r (allS dn vs k s).2).1,(FF dn vs r (allS dn vs k s).2).2):=rfl
theorem WY{dn:lU→Bool}{tx:lU}{k u:Nd}{s s2:H7}{vs cs:List lU}(hv:C9 k=(vs,u,r))(hc:FF dn vs r s=(cs,s2)):FX dn tx k s=([124]++tx++(allS dn vs u s2).1++[61]++Gb cs,(allS dn vs u s2).2):=by
 unfold FX;rw[hv];simp only;rw[hc]
theorem OU:∀(x y:Nd),(x.app y).cap=x.cap+y.cap
 |.nil,y=>by show y.cap=0+_;omega
 |.cons _ _ _ _ _ _ r,y=>by
   have:=OU r y;show _+_+(r.app y).cap=_+_+r.cap+y.cap;omega
theorem YC:∀(x y:Nd),(x.app y).txb→x.txb∧y.txb
 |.nil,_,h=>⟨tQ,h⟩
 |.cons _ _ _ _ _ _ r,y,h=>⟨⟨h.1,h.2.1,(YC r y h.2.2).1⟩,(YC r y h.2.2).2⟩
def tE(a:Option Addr)(c i:Nat):Option Addr:=if c=i then a else a.map (·.add (i*6))
theorem NX.drop{w:World}{f:Fq}:∀(u r:Nd)(b off:Nat),NX w f (u.app r) b off→NX w f r b (off+u.len*6)
 |.nil,r,b,off,h=>by show NX w f r b (off+0*6);rw[Nat.zero_mul];exact h
 |.cons _ _ _ _ _ _ x,r,b,off,h=>by
   have:=NX.drop x r b _ h.2;rw[show off+(Nd.cons _ _ _ _ _ _ x).len*6=off+6+x.len*6 by simp only[Nd.len];omega];exact this
theorem AD.drop{w:World}{f:Fq}{u:Nd}{a:Option Addr}{c i:Nat}(h:AD w f (u.app r) a c)(hu:u.len=i):AD w f r (tE a c i) (c-i):=by
 have hl:=Nd.app_len u r;refine⟨by have:=h.1;omega,?_⟩;rcases h.2 with e|⟨b,off,h1,h2⟩
 · exact .inl (by cases u with|nil=>exact e|cons=>cases e)
 · have h3:=NX.drop u r b off h2
   unfold tE
   split
   · exact .inl (Nd.len0 (by have:=h.1;omega))
   · exact .inr ⟨b,off+i*6,by rw[h1];simp[Addr.add],hu▸h3⟩
theorem cX{P:Program}{σ:Bb}{w:World}{T e:TypeId}{x:Operand}{i:Nat}{k1:IntKind}{a fa:Option Addr}{len cap:Nat}(hfa:fa=tE a cap i)(hm:len=i+m)(hx:ev σ x=some (.slice a len cap))(hlo:ev σ lo=some (.int k1 (i:Int)))(hs:Ip P T=some (e,6)):AG P σ (.slice T x (some lo) none none) ty w (.slice fa m (cap-i)) w:=by
 subst hfa;have h:=Lj (ty:=ty) (w:=w) hx hlo hs (show i≤len by omega);rw[show len-i=m by omega] at h;exact h
abbrev DS:=List (lU×Nd)
def Gd(ds:DS)(s:H7):Prop:=s.met.Nodup∧∀x,x∈s.met→Bg ds x=true
structure Rl(ds:DS)(s t:H7):Prop where
 gd:Gd ds s→Gd ds t
 pre:s.met <+: t.met
section
variable{ds:DS}{s t u:H7}{vs:List lU}{op:Int}{tx:lU}
theorem Rl.refl:Rl ds s s:=⟨id,List.prefix_refl _⟩
theorem Rl.trans(h1:Rl ds s t)(h2:Rl ds t u):Rl ds s u:=⟨λh=>h2.gd (h1.gd h),h1.pre.trans h2.pre⟩
theorem Rl.meet:Rl ds s (Ck (Bg ds) tx s):=by
 unfold Ck
 by_cases hc:(Bg ds tx&&!s.met.contains tx)=true
 · simp only[hc,if_true]
   rw[Bool.and_eq_true,Bool.not_eq_true'] at hc;refine⟨λh=>⟨?_,?_⟩,List.prefix_append _ _⟩
   · simp only
     rw[List.nodup_append];refine⟨h.1,by simp,λa ha b hb e=>?_⟩;rw[List.mem_singleton] at hb;subst e hb;rw[List.contains_iff_mem.2 ha] at hc;exact absurd hc.2 dC
   · intro x hx
     rcases List.mem_append.1 hx with hx|hx
     · exact h.2 x hx
     · rw[List.mem_singleton.1 hx];exact hc.1
 · simp only[hc]
   exact⟨id,List.prefix_refl _⟩
theorem Rl.all:∀(k:Nd)(s:H7),Rl ds s (allS (Bg ds) vs k s).2
 |.nil,_=>.refl
 |.cons op ln co tx nm k r,s=>by
   rw[Oz];refine .trans ?_ (Rl.all r _);unfold CZ
   split
   · exact .refl
   · split
     · exact .meet
     · exact .trans .meet (Rl.all k _)
theorem Rl.text{k:Nd}:Rl ds s (CZ (Bg ds) vs op tx k s).2:=by
 unfold CZ
 split
 · exact .refl
 · split
   · exact .meet
   · exact .trans .meet (Rl.all k _)
theorem Rl.cons:∀(k:Nd)(s:H7),Rl ds s (FF (Bg ds) vs k s).2
 |.nil,_=>.refl
 |.cons _ _ _ _ _ k r,s=>.trans (Rl.all k s) (Rl.cons r _)
theorem Rl.data{k:Nd}:Rl ds s (FX (Bg ds) tx k s).2:=.trans (Rl.cons _ _) (Rl.all _ _)
end
theorem L6:∀k:Nd,k=(C9 k).2.1.app (C9 k).2.2
 |.nil=>rfl
 |.cons op ln co tx nm k r=>by
   rw[C9]
   split
   · show _=Nd.cons op ln co tx nm k ((C9 r).2.1.app (C9 r).2.2)
     rw[← L6 r]
   · rfl
theorem Oe(dn:lU→Bool)(vs:List lU):∀(k:Nd)(s:H7),(Gb (FF dn vs k s).1).length≤k.cap
 |.nil,s=>Nat.le_refl _
 |.cons op ln co tx nm k r,s=>by
   have h1:=(Ea dn vs k s).1;have h2:=Oe dn vs r (allS dn vs k s).2;rw[NA];show (Gb ((tx++(allS dn vs k s).1)::(FF dn vs r (allS dn vs k s).2).1)).length≤tx.length+8+k.cap+r.cap;generalize (FF dn vs r (allS dn vs k s).2).1=l at h2
   cases l with
   |nil=>simp only[Gb,List.length_append];omega
   |cons a l=>simp only[Gb,List.length_append,List.length_cons] at h2 ⊢;omega
theorem Ws(dn:lU→Bool)(tx:lU)(k:Nd)(s:H7):(FX dn tx k s).1.length≤k.cap+tx.length+2:=by
 have h1:=Oe dn (C9 k).1 (C9 k).2.2 s;have h2:=(Ea dn (C9 k).1 (C9 k).2.1 (FF dn (C9 k).1 (C9 k).2.2 s).2).1;have h3:k.cap=(C9 k).2.1.cap+(C9 k).2.2.cap:=by rw[← OU,← L6]
 unfold FX;simp only[List.length_append,List.length_cons,List.length_nil];omega
def wD(φ:lU→Nd→Nat)(ds:DS)(x:lU):Nat:=match AR ds x with|some k=>φ x k|none=>0
theorem OG(g:lU→Nat)(n:lU):∀l:List lU,l.Nodup→(l.map g).sum≤g n+((l.filter (· != n)).map g).sum
 | [],_=>Nat.zero_le _
 |a::l,h=>by
   have ih:=OG g n l (List.nodup_cons.1 h).2
   by_cases e:a=n
   · subst e
     have:(a::l).filter (· != a)=l:=by
       rw[List.filter_cons_of_neg (by simp),List.filter_eq_self];intro x hx;have:x≠a:=λe=>(List.nodup_cons.1 h).1 (e▸hx);simpa using this
     rw[this];simp
   · rw[List.filter_cons_of_pos (by simpa using e)]
     simp only[List.map_cons,List.sum_cons];omega
theorem RU{α:Type}{n x:lU}{v:α}{l:List (lU×α)}(h:x≠n):AR ((n,v)::l) x=AR l x:=by
 rw[DE,if_neg (by simpa using λe:n=x=>h e.symm)]
theorem Tg(φ:lU→Nd→Nat):∀(ds:DS)(l:List lU),l.Nodup→(∀x,x∈l→Bg ds x=true)→(l.map (wD φ ds)).sum≤(ds.map λp=>φ p.1 p.2).sum
 | [],l,_,h=>by
   cases l with
   |nil=>exact Nat.le_refl _
   |cons a l=>have:=h a (.head _);cases this
 |(n,k)::ds,l,hn,h=>by
   have h1:=OG (wD φ ((n,k)::ds)) n l hn
   have h2:(l.filter (· != n)).map (wD φ ((n,k)::ds))=(l.filter (· != n)).map (wD φ ds):=List.map_congr_left λx hx=>by
     have:x≠n:=by simpa using (List.mem_filter.1 hx).2
     unfold wD;rw[RU this]
   have h3:=Tg φ ds (l.filter (· != n)) (List.Sublist.nodup List.filter_sublist hn) λx hx=>by
     have hx':=List.mem_filter.1 hx;have h5:=h x hx'.1;have e:x≠n:=by simpa using hx'.2
     unfold Bg at h5 ⊢;rw[RU e] at h5;exact h5
   have h4:wD φ ((n,k)::ds) n=φ n k:=by unfold wD;rw[DE,if_pos (by simp)]
   rw[h2] at h1;simp only[List.map_cons,List.sum_cons];omega
def ZT(x:lU)(k:Nd):Nat:=k.cap+x.length+2
theorem Pu{α:Type}:∀l:List α,(l.map λ_=>1).sum=l.length
 | []=>rfl
 |a::l=>by simp only[List.map_cons,List.sum_cons,List.length_cons,Pu l];omega
theorem UK{ds:DS}{s:H7}(h:Gd ds s):s.met.length≤ds.length:=by
 have h1:=Tg (λ_ _=>1) ds s.met h.1 h.2
 have e1:s.met.map (wD (λ_ _=>1) ds)=s.met.map λ_=>1:=List.map_congr_left λx hx=>by
   have:=h.2 x hx;unfold wD;unfold Bg at this
   cases hl:AR ds x with
   |none=>rw[hl] at this;cases this
   |some k=>rfl
 rw[e1,Pu] at h1;have:=Pu ds;omega
theorem YG{ds:DS}{s:H7}(h:Gd ds s)(i:Nat):((s.met.take i).map (wD ZT ds)).sum≤(ds.map λp=>ZT p.1 p.2).sum :=
 Tg ZT ds _ (List.Sublist.nodup (List.take_sublist _ _) h.1) λx hx=>h.2 x (List.mem_of_mem_take hx)
variable {i mb:Nat}{M:Nat→Prop}{dx:Nd}{a:Option Addr}{e:TypeId}
theorem Wi{ds:DS}{t d:lU}{s:H7}(hx:s.met[i]?=some d)(hd:AR ds d=some dx)(hi:i<ds.length) :
   Kl ds (ds.length+1-i) i t s=Kl ds (ds.length+1-(i+1)) (i+1) (t++(FX (Bg ds) d dx s).1) (FX (Bg ds) d dx s).2:=by
 rw[show ds.length+1-i=(ds.length+1-(i+1))+1 by omega,Kl,hx];simp only[hd,Option.getD_some]
theorem Xl{ds:DS}{t:lU}{s:H7}(hx:s.met.length≤i)(hi:i≤ds.length):Kl ds (ds.length+1-i) i t s=(t,s):=by
 rw[show ds.length+1-i=(ds.length-i)+1 by omega,Kl,List.getElem?_eq_none hx]
theorem XO{ds:DS}{T:Nat}{t d:lU}{s:H7}(hx:s.met[i]?=some d)(hd:AR ds d=some dx)(ht:t.length≤T+((s.met.take i).map (wD ZT ds)).sum) :
   (t++(FX (Bg ds) d dx s).1).length≤T+(((FX (Bg ds) d dx s).2.met.take (i+1)).map (wD ZT ds)).sum:=by
 obtain⟨z,hz⟩:=(Rl.data (ds:=ds) (s:=s) (tx:=d) (k:=dx)).pre;have hi:=(List.getElem?_eq_some_iff.1 hx).1;have hl:=Ws (Bg ds) d dx s;have hw:wD ZT ds d=dx.cap+d.length+2:=by unfold wD;rw[hd];rfl
 rw[← hz,List.take_append_of_le_length (by omega),List.take_add_one,hx];simp only[List.map_append,List.sum_append,Option.toList_some,List.map_cons,List.map_nil,List.sum_cons,List.sum_nil,List.length_append];omega
theorem KS{α:Type}{n:lU}{v:α}:∀{l:List (lU×α)},AR l n=some v→(n,v)∈l
 |(k,x)::l,h=>by
   rw[DE] at h
   split at h
   · rename_i e;cases h;rw[eq_of_beq e];exact .head _
   · exact .tail _ (KS h)
theorem Mi:∀{nds:Nd}{p:lU×Nd},p∈Cv nds→nds.txb→p.2.size+1≤nds.size∧p.1.length≤100000∧p.2.txb
 |.cons op ln co tx nm k r,p,h,hx=>by
   have hr:p∈Cv r→p.2.size+1≤k.size+r.size+1∧p.1.length≤100000∧p.2.txb:=λh=>by
     have:=Mi h hx.2.2;exact⟨oM,this.2⟩
   show p.2.size+1≤k.size+r.size+1∧_;rw[Cv] at h
   split at h
   · rcases List.mem_append.1 h with h|h
     · exact hr h
     · rw[List.mem_singleton.1 h]
       exact⟨by simp only;omega,hx.1,hx.2.1⟩
   · exact hr h
theorem Mq:∀nds:Nd,((Cv nds).map λp=>ZT p.1 p.2).sum≤nds.cap∧(Cv nds).length≤nds.len
 |.nil=>⟨Nat.le_refl _,Nat.le_refl _⟩
 |.cons op ln co tx nm k r=>by
   have h:=Mq r;rw[Cv];show _≤tx.length+8+k.cap+r.cap∧_≤r.len+1
   split
   · simp only[List.map_append,List.sum_append,List.map_cons,List.map_nil,List.sum_cons,List.sum_nil,ZT,List.length_append,List.length_cons,List.length_nil] at h ⊢;omega
   · omega
theorem Sw{a b:DS}{tx:lU}{k:Nd}(h:((a++(tx,k)::b).map (·.1)).Nodup):AR b tx=none:=by
 rw[List.map_append,List.nodup_append] at h;have h2:=(List.nodup_cons.1 h.2.1).1
 cases hl:AR b tx with
 |none=>rfl
 |some v=>exact absurd (List.mem_map.2 ⟨_,KS hl,rfl⟩) h2
def P2:Nd→Prop
 |.nil=>True
 |.cons op _ _ _ _ k r=>(op=43→k≠.nil)∧P2 r
section
variable{ds:DS}{op ln co nm o l c m:Int}{tx x:lU}{k r k1 q:Nd}{out:List (lU×lU)}{w:lU×H7}
theorem YH(h:(op==43)=false):Qr ds (.cons op ln co tx nm k r) out=Qr ds r out:=by cases k <;> (conv=>lhs;unfold Qr;rw[if_neg (by rw[h];decide)])
theorem ZB(h:(op==43)=true)(h2:((out.length:Int)==100)=true):Qr ds (.cons op ln co tx nm k r) out=.error (ln,co,4):=by cases k <;> (unfold Qr;rw[if_pos h,if_pos h2])
theorem Mw(h:(op==43)=true)(h2:((out.length:Int)==100)=false)(hw:Nb ds o x k1=w):Qr ds (.cons op ln co tx nm (.cons o l c x m k1 q) r) out=if !w.2.keeps then .error (l,c,17) else if w.1.length>1000 then .error (l,c,4) else Qr ds r (out++[(tx,w.1)]):=by
 rw[Qr,if_pos h,if_neg (by rw[h2];decide)];simp only[hw]
theorem Za(h:(op==43)=true)(h2:((out.length:Int)==100)=false)(hw:Nb ds o x k1=w)(h3:(!w.2.keeps)=true):Qr ds (.cons op ln co tx nm (.cons o l c x m k1 q) r) out=.error (l,c,17):=by
 rw[Mw h h2 hw,if_pos h3]
theorem aZ(h:(op==43)=true)(h2:((out.length:Int)==100)=false)(hw:Nb ds o x k1=w)(h3:(!w.2.keeps)=false)(h4:1000<w.1.length):Qr ds (.cons op ln co tx nm (.cons o l c x m k1 q) r) out=.error (l,c,4):=by
 rw[Mw h h2 hw,if_neg (by rw[h3];decide),if_pos h4]
theorem lT(h:(op==43)=true)(h2:((out.length:Int)==100)=false)(hw:Nb ds o x k1=w)(h3:(!w.2.keeps)=false)(h4:w.1.length≤1000):Qr ds (.cons op ln co tx nm (.cons o l c x m k1 q) r) out=Qr ds r (out++[(tx,w.1)]):=by
 rw[Mw h h2 hw,if_neg (by rw[h3];decide),if_neg oM]
end
def ZW(mb:Nat)(ds:DS)(w:World)(f:Fq):Prop:=∃es,BE BI w mb es∧FT w f ds es∧Iw es
theorem ZW.stab{ds:DS}(hm:M mb):EV M (ZW mb ds):=λ_ _ _ _ ⟨es,h1,h2,h3⟩ hF hb=>⟨es,h1.heap (hb mb hm),FT.mono hF _ _ h2,h3⟩
theorem Xm{w:World}{c:Nat}{l:List lU}(h:BP w e 1 a c l.length (l.map S)){x:lU}(hx:l[i]?=some x):∃b q,a=some ⟨b,0,none⟩∧AI w b q e∧q[i]?=some (S x):=by
 have hi:=(List.getElem?_eq_some_iff.1 hx).1;rcases h.2 with ⟨_,_,hz⟩|⟨b,q,ha,hb,hmc,_,hq,ht⟩
 · omega
 · refine⟨b,q,ha,hb,?_⟩
   have h1:(q.take (l.length*1))[i]?=some (S x):=by rw[ht,List.getElem?_map,hx];rfl
   rw[List.getElem?_take] at h1
   split at h1
   · exact h1
   · cases h1
end Go.SP
namespace Go.SW
variable {Q:AU}{σ:Bb}{X:Cx}{Fs:List (World→Fq→Prop)}{B:List FB}{fs:List Fr}{H:List HB}{n:Nat}{P:Program}
theorem uO{ds:List Deferred}{R:List RB}{k:JZ}(MI':Nat→Prop)(I':World→Fq→Prop)(h1:∀b,MI' b→X.MI b)(h2:∀w f,X.I w f→I' w f)(h3:EV MI' I')
   (h:A3 P n Q ds {X with MI:=MI',I:=I' } R B Fs k fs σ H):A3 P n Q ds X R B Fs k fs σ H:=λw f hM =>
 h w f {hM with res:=h2 w f hM.res,stab:=h3,mi:=λb hb=>hM.mi b (h1 b hb),own:=λb hb=>let ⟨x,y,z⟩:=hM.own b hb;⟨x,y,λh=>z (h1 b h)⟩}
end Go.SW
namespace Go.SP
open Go.SW Go.RowKit
variable {σ:Bb}{b i:Nat}{P:Program}{T e ty:TypeId}
theorem XQ{w:World}{x:Operand}{k c:Nat}{l:List lU}{s:lU}(hx:ev σ x=some (.pointer (some ⟨b,0+i*1,none⟩)))(hT:AN P T=some (false,k))(hr:BP w e 1 (some ⟨b,0,none⟩) c l.length (l.map S))(hl:l[i]?=some s):AG P σ (.load T x) ty w (S s) w:=by
 obtain⟨b',q,h1,h2,h3⟩:=Xm hr hl
 cases h1
 exact Ai hx hT h2 (by rw[Nat.zero_add,Nat.mul_one];exact h3)
theorem dD{k:Nd}(h:k≠.nil):∃op ln co tx nm k1 r,k=.cons op ln co tx nm k1 r:=by
 cases k with
 |nil=>exact absurd rfl h
 |cons op ln co tx nm k1 r=>exact⟨_,_,_,_,_,_,_,rfl⟩
theorem Gd.nil{ds:DS}{b:Bool}:Gd ds ⟨[],b⟩:=⟨List.nodup_nil,λ_ h=>by cases h⟩
end Go.SP
namespace Go.SP
variable {s:CS}{co ln:Int}{k:Nd}
theorem TC{s1:CS}{e e1:Ba}{op:Int}{tx:lU}{b:Option (lU×T1)}(h:Dp s e op ln co tx k=.ok (b,e1,s1)) :
   if op==41 then AR s.datas tx=none∧∃q,s1.datas=(tx,q)::s.datas else s1.datas=s.datas:=by
 unfold Dp at h
 split at h
 · rename_i h1
   rw[if_pos h1]
   split at h
   · cases h
   · rename_i s2 hd
     cases h
     unfold GP at hd
     split at hd
     · cases hd
     · rename_i h2
       rw[Bool.or_eq_true,not_or] at h2
       split at hd
       · cases hd
       · simp only at hd
         split at hd
         · cases hd
         · cases hd
           exact⟨by cases hl:AR s.datas tx with|none=>rfl|some v=>rw[hl] at h2;exact absurd rfl h2.1,_,rfl⟩
 · rename_i h1
   rw[if_neg h1]
   split at h
   · cases h;rfl
   · split at h
     · split at h
       · cases h
       · split at h
         · cases h
         · split at h
           · cases h;rfl
           · split at h
             · cases h
             · rename_i hx
               split at h
               · cases h
               · rename_i hh
                 cases h
                 exact (Ee.has hh).2.1.trans (Gi Ee _ hx).2.1
     · split at h
       · split at h
         · cases h
         · rename_i hx
           split at h
           · cases h
           · cases h
             exact (Gi Ee _ hx).2.1
       · split at h
         · split at h
           · cases h
           · rename_i hx
             split at h
             · cases h
             · cases h
               exact (PR Ee (Gi Ee _) hx).2.1
         · split at h
           · cases h
           · rename_i hx
             cases h
             exact (Gi Ee _ hx).2.1
theorem MX:∀(nds:Nd){s:CS}{e:Ba}{out:List (lU×T1)}{r:List (lU×T1)×CS},DZ s e nds out=.ok r→(∀p,p∈Cv nds→AR s.datas p.1=none)∧((Cv nds).map (·.1)).Nodup
 |.nil,_,_,_,_,_=>⟨(λ_ h=>by cases h),List.nodup_nil⟩
 |.cons op ln co tx nm k r,s,e,out,q,h=>by
   rw[DZ] at h
   have key:∀{b:Option (lU×T1)}{e1:Ba}{s1:CS}{out2:List (lU×T1)},Dp s e op ln co tx k=.ok (b,e1,s1)→DZ s1 e1 r out2=.ok q→(∀p,p∈Cv (.cons op ln co tx nm k r)→AR s.datas p.1=none)∧((Cv (.cons op ln co tx nm k r)).map (·.1)).Nodup:=by
     intro b e1 s1 out2 h1 h2;have hd:=TC h1;have ih:=MX r h2;rw[Cv]
     split at hd
     · rename_i h41
       rw[if_pos h41];obtain⟨hn,v,hs⟩:=hd
       have hr:∀p,p∈Cv r→AR s.datas p.1=none∧p.1≠tx:=λp hp=>by
         have h5:=ih.1 p hp;rw[hs,DE] at h5
         split at h5
         · cases h5
         · rename_i h6
           exact⟨h5,λe=>h6 (by rw[e];simp)⟩
       refine⟨λp hp=>?_,?_⟩
       · rcases List.mem_append.1 hp with hp|hp
         · exact (hr p hp).1
         · rw[List.mem_singleton.1 hp];exact hn
       · rw[List.map_append,List.nodup_append]
         refine⟨ih.2,by simp,λa ha b hb e=>?_⟩;obtain⟨p,hp,rfl⟩:=List.mem_map.1 ha;have hb:b=tx:=by simpa using hb
         exact (hr p hp).2 (e.trans hb)
     · rename_i h41
       rw[if_neg h41];rw[hd] at ih;exact ih
   split at h
   · cases h
   · rename_i h1;exact key h1 h
   · rename_i h1;exact key h1 h
theorem Wq{nds:Nd}{bs:List (lU×lU)}(h:C7 nds=.ok bs):((Cv nds).map (·.1)).Nodup:=by
 unfold C7 at h
 split at h
 · cases h
 · rename_i h1;exact (MX nds h1).2
theorem Sh:∀{nds:Nd},nds.wft→P2 nds
 |.nil,_=>trivial
 |.cons op ln co tx nm k r,⟨h1,h2⟩=>by
   refine⟨λe=>?_,Sh h2⟩;rcases h1 with h|⟨_,h⟩|⟨h,_⟩
   · omega
   · obtain⟨_,_,_,_,_,_,_,rfl⟩:=Ct h dC
     exact λh=>by cases h
   · omega
end Go.SP
