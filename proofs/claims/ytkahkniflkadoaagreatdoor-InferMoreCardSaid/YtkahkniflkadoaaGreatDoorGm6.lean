/- What it rests on, part 6. -/
import Derived.Test.YtkahkniflkadoaaGreatDoorGm5
import Derived.Test.YtkahkniflkadoaaGreatDoorCards
import Derived.Test.YtkahkniflkadoaaGreatDoorTie
import Derived.OpenShut
import Derived.Lib.LaidU8
import Derived.Clock
import Derived.ProofKit
import Derived.Lay
import Derived.Stop.Joined
import Derived.Deep.DeepHandedRow
set_option linter.unusedVariables false
set_option linter.unusedSimpArgs false
namespace Go.Proofs.YtkahkniflkadoaaGreatDoor
open Go.SW Go.SP Go.RowKit Go.Shelf Go.Lib Go.Proofs.Tryz
structure Fg(w:World)(f:Fq):Prop where
 maxLen:∃m:Int,Cs w f 2 0 [.int .i64 m]
 space:∀c:Nat,c<256→c<f 0 ∧ w.cell? ⟨0,c,none⟩=some (.int .u8 (if Lib.isSp (UInt8.ofNat c) then 1 else 0))
theorem Fg.mono:Gf (λw f=>Fg w f):=λ_ _ _ _ h hF=>⟨let ⟨m,hm⟩:=h.maxLen;⟨m,hm.mono hF⟩,λc hc=>⟨Nat.lt_of_lt_of_le (h.space c hc).1 (hF _).1,((hF _).2 c (h.space c hc).1).trans (h.space c hc).2⟩⟩
theorem He(w:World)(f:Fq)(hv:Vl w f)(hG:Fg w f)(a b:lU)(ha:a.length<4294967281):B3 prog 46 #[S a,S b] w (BO (α:=Unit) (λ_=>.bool (BF a b)) (λ_=>True) (λ_=>[]) w f):=by
 obtain⟨m,hm⟩:=hG.maxLen;have h:=Any.strings_Contains Tryz.lays144 ⟨a.toArray⟩ ⟨b.toArray⟩ m w (by rw[Kq];exact ha) (hm 0 _ rfl).2;rw[Ff,Ff,Je] at h;exact Calls.mono h λ_ _ ⟨he,hw⟩=>⟨_,he,(),f,rfl,tQ,(by subst hw;exact CD.refl _ hv),tQ⟩
def ZD(w:World)(f:Fq)(l:List lU)(a:Option Addr)(c:Nat):Prop:=l.length≤c∧∃b,a=some ⟨b,0,none⟩∧Cs w f b 0 (l.map S)
variable {a:Option Addr}
theorem ZD.mono{l:List lU}{c:Nat}:Gf (λw f=>ZD w f l a c):=λ_ _ _ _ h hF=>⟨h.1,let ⟨b,h1,h2⟩:=h.2;⟨b,h1,h2.mono hF⟩⟩
theorem Se(w:World)(f:Fq)(hv:Vl w f)(hG:Fg w f)(s:lU)(hs:s.length≤1000)(ha:s.all (λc=>decide (c.toNat<128))=true):B3 prog 67 #[S s] w (BO (α:=Option Addr×Nat) (λx=>.slice x.1 (Lib.fields s).length x.2) (λ_=>True) (λx=>[λw f=>ZD w f (Lib.fields s) x.1 x.2]) w f):=by
 have h:=Any.strings_Fields_core Tryz.lays157 kR ⟨s.toArray⟩ w (by rw[Kq];omega) (λj c hj=>by
   rw[Ff] at hj;have:=List.all_eq_true.1 ha c (List.mem_of_getElem? hj);simpa using this) (λc hc=>(hG.space c hc).2)
 rw[Ff] at h;refine Calls.mono h λ_ w' ⟨he,hw⟩=>⟨_,he,(some ⟨w.heap.size,0,none⟩,(Lib.fields s).length),λb=>if b=w.heap.size then (Lib.fields s).length else f b,rfl,tQ,?_,⟨⟨Nat.le_refl _,w.heap.size,rfl,λj v hj=>?_⟩,tQ⟩⟩
 · subst hw
   exact CD.done (CD.of_ext (JE w _) hv) (Nat.le_refl _) (by rw[GL];omega) _
 · subst hw
   have hlt:j<((Lib.fields s).map S).length:=(List.getElem?_eq_some_iff.1 hj).1;rw[List.length_map] at hlt;refine⟨by simp only[if_true];omega,?_⟩;have hb:=heap_alloc_new w (.cells ((Lib.fields s).map λl=>Value.string ⟨l.toArray⟩).toArray 9);have hj2:((Lib.fields s).map λl=>Value.string ⟨l.toArray⟩)[j]?=some v:=hj;simp only[World.cell?];rw[show (w.alloc (.cells ((Lib.fields s).map λl=>Value.string ⟨l.toArray⟩).toArray _)).heap[w.heap.size]?=_ from heap_alloc_new w _];simpa using hj2
end Go.Proofs.YtkahkniflkadoaaGreatDoor
namespace Go.Proofs.YtkahkniflkadoaaGreatDoor
open Go.SW Go.SP Go.RowKit Go.Proofs.Tryz
set_option maxHeartbeats 1000000 in
theorem Xg(n:Nat)(ih:rR prog Fg 17 46 63 128 n)(w:World)(f:Fq)(hv:Vl w f)(A:Ad)(s:CS)(hC:As 63 128 A s w f)(hw:DD s)(hG:Fg w f)(op ln co nm:Int)(tx:lU)(kids:Nd)(na:Option Addr)(nc:Nat)(vv:Value)(vars:List (lU×T1))(hm:kids.size<n+1)(hsz:kids.size≤200000)(htx:tx.length≤100000)(htb0:kids.txb)(hV:NS vv vars w)(hN:AU w f kids na nc) :
  BD prog 17 #[pB A.cb,.agg #[iV op,iV ln,iV co,S tx,iV nm,.slice na kids.len nc],vv] w (BO (α:=T1×Option Addr×Nat) (λx=>tV x.1 x.2.1 x.2.2) (λx=>CB s.datas vars op ln co tx kids=.ok x.1∧x.1.bnd) (λx=>[λw f=>Ai w f x.1.kids x.2.1 x.2.2]) w f) (PanE 46 (λ_=>False) (λer=>CB s.datas vars op ln co tx kids=.error er) w f):=by
 have hkl:=Nd.len_le kids;refine MR (X:=X0 w f) (H:=[]) (R:=[]) (B:=[]) (Fs:=[λw f=>AU w f kids na nc,λw f=>Fg w f]) (f:=f) func17 rfl rfl rfl (Cz hv ⟨hN,hG,tQ⟩ ⟨AU.mono,Fg.mono,tQ⟩)<|Aa 14 [1] (λb1=>λb2=>y<|λ_=>AZ 17 rfl rfl (λh1=>?_) (λh1=>?_));refine Aa 2 [] (λ_=>?_);rcases hV with ⟨rfl,rfl⟩|⟨vm,rfl,hVm,hVd,hVv⟩
 ·
  have hl:BM ([]:List (lU×T1)) tx=none:=rfl;exact Aa 4 [1] (y<|λ_=>Fm rfl rfl (λw f hM=>jM (a:=tx) rfl rfl Ly Ha M6)<|Aa 13 [0,2] (λb3=>y<|y<|λ_=>MZ rfl rfl (eC E0 rfl rfl) (λ_ h=>h.elim) (λw f hM=>(Cp w f hM.vl false ln co).mono (λ_ _ ⟨_,_,_,h,_⟩=>by cases h) λ_ _ h=>h) (λer w2 f2 he hE=>⟨rfl,er,f2,rfl,(by rw[CB,if_pos h1,hl,he.2]),hE⟩)))
 ·
  cases hl:BM vars tx with
  |none =>
   exact Aa 4 [1] (y<|λ_=>Fm rfl rfl (λw f hM=>JZ (K:=C4) (a:=tx) rfl rfl Ly Ha M6 (hVm.heap (hM.exm.stp.block _ hVm.lt (λh=>h))) hVd (by rw[Ex (λt=>tV t none 0),hl];rfl))<|Aa 13 [0,2] (λb4=>y<|y<|λ_=>MZ rfl rfl (eC E0 rfl rfl) (λ_ h=>h.elim) (λw f hM=>(Cp w f hM.vl false ln co).mono (λ_ _ ⟨_,_,_,h,_⟩=>by cases h) λ_ _ h=>h) (λer w2 f2 he hE=>⟨rfl,er,f2,rfl,(by rw[CB,if_pos h1,hl,he.2]),hE⟩)))
  |some tv =>
   obtain⟨q0,rfl⟩:=hVv tx tv hl;refine Aa 4 [1] (y<|λ_=>Fm rfl rfl (λw f hM=>Kj (K:=C4) (a:=tx) (v:=tV (.var q0) none 0) rfl rfl Ly Ha M6 (hVm.heap (hM.exm.stp.block _ hVm.lt (λh=>h))) hVd (by rw[Ex (λt=>tV t none 0),hl];rfl))<|Aa 13 [0,2] (λb5=>y<|y<|λ_=>DK (α:=Unit) (val:=λ_=>.tuple #[]) (q:=λ_=>true=true) (I':=λ_ _ _=>True) (F':=λ_=>[]) (pe:=λer=>true=false∧er=(ln,co,11)) (M:=λ_=>False) (T:=46) rfl rfl (eC E0 rfl rfl) (λ_ h=>h.elim) (λw f hM=>(Cp w f hM.vl true ln co).mono (λ_ _ ⟨x,f2,h1,h2,h3,h4⟩=>⟨x,f2,h1,h2,h3,tQ,h4⟩) λ_ _ h=>h) (λ_ _ _ _ _ _ _ _=>trivial) (λ_=>trivial) (λer w2 f2 he hE=>⟨rfl,er,f2,rfl,(by cases he.1),hE⟩) ?_));rintro⟨⟩ hnd;exact Aa 10 [0,1] (y<|y<|λ_=>AV (λw f hM=>AB rfl (Ae rfl AT hM.k1 rfl)) (λw f hM=>⟨(.var q0,none,0),f,rfl,⟨(by rw[CB,if_pos h1,hl]),Bu _⟩,hM.exm,⟨Ai.nil _ _ _ _,tQ⟩⟩))
 refine Aa 4 [] (λ_=>?_);refine X6 (α:=Int×Bool) (λx=>BM s.datas tx=if x.2 then some x.1 else none) (λx=>(E6 0 (pB A.cb) 2 (vv) 4 (pB b1) 6 (pB b2) 9 (iV x.1) 10 (.bool x.2))) (λx=>X0 w f) (λx=>[⟨b2,zT,55,true⟩,⟨b1,[iV op,iV ln,iV co,S tx,iV nm,.slice na kids.len nc],53,true⟩]) (λx=>[]) (λx=>[]) (λx=>[λw f=>AU w f kids na nc,λw f=>Fg w f]) ?_ ?_
 cases hdl:BM s.datas tx with
 |none =>
  exact LV (λw=>AM w A.cb [pB A.sb,.map (some A.km),.map (some A.dm),.map (some A.rm),iV s.vars] 63∧Ch C4 w A.dm (s.datas.map λp=>(p.1,iV p.2))) (λw f _ hE=>⟨(hE.stp.block _ (hC.lt (.inl rfl)) (λh=>h)).trans hC.blk,hC.datas.heap (hE.stp.block _ hC.datas.lt (λh=>h))⟩) [0,1] Aq (rd [0,1,2,3,4,5,6,7,8,9,10,11] .fin) rfl kR kR kR (λ_ _ _ _ _ h=>h)<|A6 3 [] (λ_=>Hm rfl rfl rfl (λw hK=>Al rfl Tf hK.2.2.1 rfl)<|A6 2 [1] (y<|λ_=>Hm rfl rfl rfl (λw hK=>JZ (K:=C4) (a:=tx) rfl rfl So Ha cN hK.2.2.2 hw.dd (by rw[Ex (λc=>Value.int .i64 c),hdl];rfl))<|A6 5 [] (λ_=>Bo<|Lk (0,false) rfl lE (λw f hM=>⟨f,hM.less (sK (sK sZ)) sR nE (mR [0,1])⟩))))
 |some cnt =>
  exact LV (λw=>AM w A.cb [pB A.sb,.map (some A.km),.map (some A.dm),.map (some A.rm),iV s.vars] 63∧Ch C4 w A.dm (s.datas.map λp=>(p.1,iV p.2))) (λw f _ hE=>⟨(hE.stp.block _ (hC.lt (.inl rfl)) (λh=>h)).trans hC.blk,hC.datas.heap (hE.stp.block _ hC.datas.lt (λh=>h))⟩) [0,1] Aq (rd [0,1,2,3,4,5,6,7,8,9,10,11] .fin) rfl kR kR kR (λ_ _ _ _ _ h=>h)<|A6 3 [] (λ_=>Hm rfl rfl rfl (λw hK=>Al rfl Tf hK.2.2.1 rfl)<|A6 2 [1] (y<|λ_=>Hm rfl rfl rfl (λw hK=>Kj (K:=C4) (a:=tx) (v:=iV cnt) rfl rfl So Ha cN hK.2.2.2 hw.dd (by rw[Ex (λc=>Value.int .i64 c),hdl];rfl))<|A6 5 [] (λ_=>Bo<|Lk (cnt,true) rfl lE (λw f hM=>⟨f,hM.less (sK (sK sZ)) sR nE (mR [0,1])⟩))))
 rintro⟨cnt,dk⟩ hdl;dsimp only at hdl;refine Aa 11 [1] (y<|aI (by simp;omega)<|aI (by simp;omega)<|λ_=>?_);refine X6 (α:=Bool) (λx=>x=JQ s.datas tx kids) (λx=>(E5 0 (pB A.cb) 2 (vv) 4 (pB b1) 6 (pB b2) 10 (.bool x))) (λx=>X0 w f) (λx=>[⟨b2,zT,55,true⟩,⟨b1,[iV op,iV ln,iV co,S tx,iV nm,.slice na kids.len nc],53,true⟩]) (λx=>[]) (λx=>[]) (λx=>[λw f=>AU w f kids na nc,λw f=>Fg w f]) ?_ ?_;refine Aa 4 [] (λ_=>By rfl rfl (eC Qz rfl rfl) (λw f hM=>He w f hM.vl hM.f1 Hc ([32]++tx++[32]) dC) (λx=>trivial) ?_);rintro⟨⟩ -;refine Aa 3 [] (λ_=>AZ 52 rfl rfl (λh2=>?_) (λh2=>?_));exact Aa 9 [1] (y<|λ_=>Lk (((kids.len:Int)==0)) (by rw[JQ,if_pos h2]) lE (λw f hM=>⟨f,hM.less (sK (sK sZ)) sR nE (mR [0,1])⟩));refine Aa 9 [1] (y<|λ_=>AZ 59 rfl rfl (λh3=>?_) (λh3=>?_));exact Aa 9 [1] (y<|λ_=>Lk (((kids.len:Int)==2)) (by rw[JQ,if_neg (by rw[h2];decide),if_pos (show (tx==Dz)=true from h3)]) lE (λw f hM=>⟨f,hM.less (sK (sK sZ)) sR nE (mR [0,1])⟩));refine Aa 4 [] (λ_=>By rfl rfl (eC Qz rfl rfl) (λw f hM=>He w f hM.vl hM.f1 Q4 ([32]++tx++[32]) dC) (λx=>trivial) ?_);rintro⟨⟩ -;refine Aa 3 [] (λ_=>AZ 67 rfl rfl (λh4=>?_) (λh4=>?_));exact Aa 5 [] (λ_=>Lk (true) (by rw[JQ,if_neg (by rw[h2];decide),if_neg (by rw[show (tx==Dz)=false from h3];decide),if_pos h4]) lE (λw f hM=>⟨f,hM.less (sK (sK sZ)) sR nE (mR [0,1])⟩));refine Aa 4 [] (λ_=>AZ 45 rfl rfl (λh5=>?_) (λh5=>?_));exact Aa 9 [1] (y<|λ_=>Lk ((cnt==(kids.len:Int))) (by rw[JQ,if_neg (by rw[h2];decide),if_neg (by rw[show (tx==Dz)=false from h3];decide),if_neg (by rw[h4];decide),hdl,if_pos (show dk=true from h5)]) lE (λw f hM=>⟨f,hM.less (sK (sK sZ)) sR nE (mR [0,1])⟩));exact Aa 9 [] (λ_=>Lk (false) (by rw[JQ,if_neg (by rw[h2];decide),if_neg (by rw[show (tx==Dz)=false from h3];decide),if_neg (by rw[h4];decide),hdl,if_neg (by rw[show dk=false from h5];decide)]) lE (λw f hM=>⟨f,hM.less (sK (sK sZ)) sR nE (mR [0,1])⟩));rintro ok hok;refine Aa 6 [1] (y<|λ_=>DK (α:=Unit) (val:=λ_=>.tuple #[]) (q:=λ_=>ok=true) (I':=λ_ _ _=>True) (F':=λ_=>[]) (pe:=λer=>ok=false∧er=(ln,co,11)) (M:=λ_=>False) (T:=46) rfl rfl (eC E0 rfl rfl) (λ_ h=>h.elim) (λw f hM=>(Cp w f hM.vl ok ln co).mono (λ_ _ ⟨x,f2,h1,h2,h3,h4⟩=>⟨x,f2,h1,h2,h3,tQ,h4⟩) λ_ _ h=>h) (λ_ _ _ _ _ _ _ _=>trivial) (λ_=>trivial) (λer w2 f2 he hE=>⟨rfl,er,f2,rfl,(by rw[CB,if_neg (by rw[h1];decide),if_neg (by rw[← hok,he.1];decide),he.2]),hE⟩) ?_);rintro⟨⟩ hnd;refine Aa 6 [1] (y<|λ_=>By rfl rfl (eC Br rfl rfl) (λw f hM=>Bl w f hM.vl tx) (λx=>trivial) ?_);rintro⟨⟩ -;refine Aa 14 [0,2] (λb6=>y<|y<|λ_=>QP 55 4 ?_)
 refine GC (α:=Nat×Nd×Ty×List Value×Option Addr×Nat) (λx=>x.2.1.len) (λx=>x.1+x.2.1.len=kids.len∧x.2.2.1.len=x.1∧Fw s.datas vars kids=(match Fw s.datas vars x.2.1 with|.error x=>.error x|.ok l=>.ok (x.2.2.1.app l))∧x.2.2.1.bnd∧x.2.1.txb∧x.2.1.size≤kids.size) (λx=>(E7 0 (pB A.cb) 2 (vv) 6 (pB b2) 12 (pB b6) 78 (.slice na kids.len nc) 79 (iV (kids.len:Int)) 80 (iV (x.1:Int)))) (λx=>X0 w f) (λx=>[⟨b6,[iV 1,iV 0,S tx,.slice x.2.2.2.2.1 x.1 x.2.2.2.2.2],55,true⟩,⟨b2,zT,55,true⟩,⟨b1,[iV op,iV ln,iV co,S tx,iV nm,.slice na kids.len nc],53,true⟩]) (λx=>[⟨55,4,x.2.2.2.2.1,x.2.2.2.2.2,x.1,x.2.2.2.1⟩]) (λx=>[]) (λx=>[λw f=>Bt w f na x.1 x.2.1,λw f=>Bi w f x.2.2.1 x.2.2.2.1,λw f=>Fg w f]) (0,kids,.nil,[],none,0) ⟨Nat.zero_add _,rfl,MT,tQ,htb0,Nat.le_refl _⟩ lE (λw f hM=>hM.more (B':=[]) (F':=[λw f=>Bt w f na 0 kids,λw f=>Bi w f .nil []]) nE (AI.mem ⟨AU.at hM.f0,rfl,tQ⟩) (Az.mem ⟨Bt.mono,Bi.mono,tQ⟩) |>.less sR sR nE (mR [0,1,3])) ?_;rintro⟨i,r,dn,xs,ra,rc⟩ ⟨hi,hdl2,hty,hdb,htxb,hrs⟩;dsimp only at hi hdl2 hty hdb htxb hrs ⊢;refine Aa 6 [] (λ_=>AZ 81 rfl rfl (λh6=>?_) (λh6=>?_));refine Aa 6 [] (λ_=>?_);have hil:i<kids.len:=by have:=of_decide_eq_true h6;omega
 obtain⟨op2,ln2,co2,tx2,nm2,k2,r,rfl⟩:=Nd.cases1 r oM;have hi2:i+(r.len+1)=kids.len:=hi;have hrs2:k2.size+r.size+1≤kids.size:=hrs;obtain⟨htx2,hkx2,hrx2⟩:=htxb;refine Jp 0 rfl ?_;rintro⟨eb,eo,ka,kc⟩ rfl;refine Aa 7 [100,0,0] (aI oM<|y2<|λb7=>y<|λ_=>CU [0,2,3] Aq (rd [0,2,3,4] (.br 1 (.br 5 (.br 6 (.br 7 (.rd 8 (.br 9 .fin .fin)) .fin) .fin) .fin) (.br 5 (.br 1 (.br 6 (.br 7 (.rd 8 (.br 9 .fin .fin)) .fin) .fin) (.br 6 (.br 1 (.br 7 (.rd 8 (.br 9 .fin .fin)) .fin) .fin) .fin)) .fin))) rfl kR<|A6 4 [0] (y<|λ_=>Ag rfl ?_ ?_));refine Aa 2 [1] (y<|λ_=>Ax [0,2,3] rfl<|Ag rfl ?_ Aj);refine DK (I':=λ_ _ _=>True) (M:=λ_=>False) (α:=T1×Option Addr×Nat) (val:=λx=>tV x.1 x.2.1 x.2.2) (q:=λx=>CB s.datas vars op2 ln2 co2 tx2 k2=.ok x.1∧x.1.bnd) (F':=λx=>[λw f=>Ai w f x.1.kids x.2.1 x.2.2]) (pe:=λer=>CB s.datas vars op2 ln2 co2 tx2 k2=.error er) (T:=46) rfl rfl (eC NO rfl rfl) (λ_ h=>h.elim) (λw f hM=>(ih w f hM.vl A s (As.stab _ _ _ _ hC (hM.exm.fle hv (λ_ h=>h.elim)) (λb hb=>hM.exm.stp.block b (hC.lt hb) (λh=>h))) hw hM.f4 op2 ln2 co2 nm2 tx2 k2 ka kc vv vars oM oM htx2 hkx2 (NS.keep hV hM.exm) hM.f0).mono (λ_ _ ⟨x,f2,h1,h2,h3,h4⟩=>⟨x,f2,h1,h2,h3,tQ,h4⟩) λ_ _ h=>h) (λ_ _ _ _ _ _ _ _=>trivial) (λ_=>⟨Ai.mono,tQ⟩) (λer w2 f2 he hE=>⟨rfl,er,f2,rfl,(by rw[CB,if_neg (by rw[h1];decide),if_pos (hok▸hnd),hty,Jc he]),hE⟩) ?_;rintro⟨q5,qa,qc⟩ ⟨hp5,hqb⟩;dsimp only at hp5 hqb ⊢;refine Aa 1 [] (λ_=>Ax [0,2,3] rfl<|Ag rfl ?_ Aj);refine Aa 2 [] (λb8=>λ_=>Ax [1,3,4] rfl<|Ag rfl ?_ Aj);refine D4 0 0 rfl rfl Df rfl rfl rfl rfl rfl rfl rfl rfl (λ_ _=>rfl) oM oM λra2 rc2=>Aa 1 [] (λ_=>Ax [1,3,4] rfl<|A6 1 [] (λ_=>Ag rfl ?_ Aj));exact Aa 2 [2] (y<|λ_=>Ax [1,3,4] rfl<|Bo<|Aa 6 [] (aI ⟨oM,oM⟩<|λ_=>DF ((i+1,r,dn.snoc q5,xs++tC q5 qa qc,ra2,rc2)) (show r.len<(Nd.cons op2 ln2 co2 tx2 nm2 k2 r).len from Nat.lt_succ_self _) ⟨show i+1+r.len=_ by omega,show (dn.snoc _).len=i+1 by rw[Ty.len_snoc,hdl2],hty.trans (G5 hp5),show (dn.snoc _).bnd from Ty.bnd_snoc hdb hqb,hrx2,show r.size≤_ by omega⟩ lE (λw f hM=>⟨_,(hM.more (B':=[]) (F':=[λw f=>Bi w f (dn.snoc q5) (xs++tC q5 qa qc)]) nE (AI.mem ⟨Bi.snoc hM.f0 hM.f4,tQ⟩) (Az.mem ⟨Bi.mono,tQ⟩)).less (.cons _ (.cons _ sR)) sR nE (mR [3,0,6])⟩)));refine Ag rfl ?_ Aj
 refine DK (I':=λ_ _ _=>True) (M:=λ_=>False) (α:=T1×Option Addr×Nat) (val:=λx=>tV x.1 x.2.1 x.2.2) (q:=λx=>CB s.datas vars op2 ln2 co2 tx2 k2=.ok x.1∧x.1.bnd) (F':=λx=>[λw f=>Ai w f x.1.kids x.2.1 x.2.2]) (pe:=λer=>CB s.datas vars op2 ln2 co2 tx2 k2=.error er) (T:=46) rfl rfl (eC NO rfl rfl) (λ_ h=>h.elim) (λw f hM=>(ih w f hM.vl A s (As.stab _ _ _ _ hC (hM.exm.fle hv (λ_ h=>h.elim)) (λb hb=>hM.exm.stp.block b (hC.lt hb) (λh=>h))) hw hM.f4 op2 ln2 co2 nm2 tx2 k2 ka kc vv vars oM oM htx2 hkx2 (NS.keep hV hM.exm) hM.f0).mono (λ_ _ ⟨x,f2,h1,h2,h3,h4⟩=>⟨x,f2,h1,h2,h3,tQ,h4⟩) λ_ _ h=>h) (λ_ _ _ _ _ _ _ _=>trivial) (λ_=>⟨Ai.mono,tQ⟩) (λer w2 f2 he hE=>⟨rfl,er,f2,rfl,(by rw[CB,if_neg (by rw[h1];decide),if_pos (hok▸hnd),hty,Jc he]),hE⟩) ?_;rintro⟨q5,qa,qc⟩ ⟨hp5,hqb⟩;dsimp only at hp5 hqb ⊢;refine Aa 1 [] (λ_=>Ax [0,2,3] rfl<|Ag rfl ?_ ?_);refine Aa 2 [1] (y<|λ_=>Ax [0,2,3] rfl<|Ag rfl ?_ Aj);refine Aa 2 [] (λb9=>λ_=>Ax [1,3,4] rfl<|Ag rfl ?_ Aj);refine D4 0 0 rfl rfl Df rfl rfl rfl rfl rfl rfl rfl rfl (λ_ _=>rfl) oM oM λra2 rc2=>Aa 1 [] (λ_=>Ax [1,3,4] rfl<|A6 1 [] (λ_=>Ag rfl ?_ Aj));exact Aa 2 [2] (y<|λ_=>Ax [1,3,4] rfl<|Bo<|Aa 6 [] (aI ⟨oM,oM⟩<|λ_=>DF ((i+1,r,dn.snoc q5,xs++tC q5 qa qc,ra2,rc2)) (show r.len<(Nd.cons op2 ln2 co2 tx2 nm2 k2 r).len from Nat.lt_succ_self _) ⟨show i+1+r.len=_ by omega,show (dn.snoc _).len=i+1 by rw[Ty.len_snoc,hdl2],hty.trans (G5 hp5),show (dn.snoc _).bnd from Ty.bnd_snoc hdb hqb,hrx2,show r.size≤_ by omega⟩ lE (λw f hM=>⟨_,(hM.more (B':=[]) (F':=[λw f=>Bi w f (dn.snoc q5) (xs++tC q5 qa qc)]) nE (AI.mem ⟨Bi.snoc hM.f0 hM.f4,tQ⟩) (Az.mem ⟨Bi.mono,tQ⟩)).less (.cons _ (.cons _ sR)) sR nE (mR [3,0,6])⟩)));refine Ag rfl ?_ Aj;refine Aa 2 [] (λb10=>λ_=>Ax [1,3,4] rfl<|Ag rfl ?_ Aj);refine Aa 2 [2] (y<|λ_=>Ax [1,3,4] rfl<|Ag rfl ?_ Aj);refine D4 0 0 rfl rfl Df rfl rfl rfl rfl rfl rfl rfl rfl (λ_ _=>rfl) oM oM λra2 rc2=>Aa 1 [] (λ_=>Ax [1,3,4] rfl<|A6 1 [] (λ_=>Ag rfl ?_ Aj));exact Aa 2 [2] (y<|λ_=>Ax [1,3,4] rfl<|Bo<|Aa 6 [] (aI ⟨oM,oM⟩<|λ_=>DF ((i+1,r,dn.snoc q5,xs++tC q5 qa qc,ra2,rc2)) (show r.len<(Nd.cons op2 ln2 co2 tx2 nm2 k2 r).len from Nat.lt_succ_self _) ⟨show i+1+r.len=_ by omega,show (dn.snoc _).len=i+1 by rw[Ty.len_snoc,hdl2],hty.trans (G5 hp5),show (dn.snoc _).bnd from Ty.bnd_snoc hdb hqb,hrx2,show r.size≤_ by omega⟩ lE (λw f hM=>⟨_,(hM.more (B':=[]) (F':=[λw f=>Bi w f (dn.snoc q5) (xs++tC q5 qa qc)]) nE (AI.mem ⟨Bi.snoc hM.f0 hM.f4,tQ⟩) (Az.mem ⟨Bi.mono,tQ⟩)).less (.cons _ (.cons _ sR)) sR nE (mR [3,0,6])⟩)));refine Aa 3 [] (λ_=>Gp<|Aa 3 [] (λ_=>?_));obtain rfl:r=.nil:=Nd.len0 (by have:=of_decide_eq_false h6;omega);have hty2:Fw s.datas vars kids=.ok dn:=by rw[hty];show (Except.ok (dn.app .nil):RI Ty)=_;rw[Ty.app_nil]
 have hdk:dn.len≤200000:=by have:i+0=kids.len:=hi;omega
 subst hdl2;exact QU (λw f=>Ai w f dn ra rc) Ai.mono (λw f hM=>Hs hM hM.f1)<|Aa 6 [0,1] (y<|y<|λ_=>AV (λw f hM=>AB rfl (Ae rfl AT hM.k1 rfl)) (λw f hM=>⟨(.con tx dn,ra,rc),f,rfl,⟨(by rw[CB,if_neg (by rw[h1];decide),if_pos (hok▸hnd),hty2]),Dm oM hdk hdb⟩,hM.exm,⟨hM.f0,tQ⟩⟩))
theorem KC:∀n,rR prog Fg 17 46 63 128 n
 |0=>λ_ _ _ _ _ _ _ _ _ _ _ _ _ _ _ _ _ _ h=>absurd h (Nat.not_lt_zero _)
 |n+1=>λw f hv A s hC hw hG op ln co nm tx kids na nc vv vars hm hsz htx htb hV hN=>Xg n (KC n) w f hv A s hC hw hG op ln co nm tx kids na nc vv vars hm hsz htx htb hV hN
set_option maxHeartbeats 2000000 in
theorem Wx(w:World)(f:Fq)(hv:Vl w f)(A:Ad)(hA:A.ok)(s:CS)(hC:As 63 128 A s w f)(hf:∀b,Bz A b→f b=0)(hw:DD s)(hG:Fg w f)(op ln co nm:Int)(tx:lU)(kids:Nd)(na:Option Addr)(nc:Nat)(hsz:kids.size≤200000)(htx:tx.length≤100000)(htb0:kids.txb)(hN:AU w f kids na nc)(hvb : -800000000000≤s.vars-kids.len)(hvb2:s.vars≤0) :
  BD prog 15 #[pB A.cb,.agg #[iV op,iV ln,iV co,S tx,iV nm,.slice na kids.len nc]] w (EP (α:=CS) (λ_=>.tuple #[]) (λx=>FQ s ln co tx kids=.ok x∧DD x∧x.fresh=s.fresh∧s.vars-kids.len≤x.vars∧x.vars≤s.vars) (Bz A) (λx=>As 63 128 A x) (λ_=>[]) w f) (PanE 46 (Bz A) (λer=>FQ s ln co tx kids=.error er) w f):=by
 have hkl:=Nd.len_le kids;refine MR (X:=XC 63 128 A s w f) (H:=[]) (R:=[]) (B:=[]) (Fs:=[λw f=>AU w f kids na nc,λw f=>Fg w f]) (f:=f) func15 rfl rfl rfl (La hv hC hf ⟨hN,hG,tQ⟩ ⟨AU.mono,Fg.mono,tQ⟩)<|Aa 6 [] (λb1=>λ_=>?_)
 cases hdl:BM s.datas tx with
 |none =>
  refine LV (λw=>AM w A.cb [pB A.sb,.map (some A.km),.map (some A.dm),.map (some A.rm),iV s.vars] 63∧Ch C4 w A.dm (s.datas.map λp=>(p.1,iV p.2))) (λw f h _=>⟨h.blk,h.datas⟩) [0] Aq (rd [0,1,2,3,4,5,6,7,8,9,10,11] .fin) rfl kR kR kR (λ_ _ _ _ _ h=>h)<|A6 3 [] (λ_=>Hm rfl rfl rfl (λw hK=>Al rfl Tf hK.2.2.1 rfl)<|A6 2 [0] (y<|λ_=>Hm rfl rfl rfl (λw hK=>JZ (K:=C4) (a:=tx) rfl rfl So Ha cN hK.2.2.2 hw.dd (by rw[Ex (λc=>Value.int .i64 c),hdl];rfl))<|A6 5 [] (λ_=>Bo<|Aa 2 [] (λ_=>CU [0] Aq (rd [0,1,2,3,4,5,6,10,11] (.br 7 (.rd 8 (.rd 9 (.br 12 .fin .fin))) .fin)) rfl kR<|A6 9 [0,0] (y<|aI (by simp;omega)<|aI (by simp;omega)<|y<|λ_=>?_)))));refine Ag rfl ?_ Aj;refine By rfl rfl (eC Qz rfl rfl) (λw f hM=>He w f hM.vl hM.f1 Hc ([32]++tx++[32]) dC) (λx=>trivial) ?_;rintro⟨⟩ -;refine Aa 1 [] (λ_=>Ax [0] rfl<|A6 2 [] (λ_=>Ag rfl ?_ Aj));refine DK (α:=Unit) (val:=λ_=>.tuple #[]) (q:=λ_=>(!BF Hc ([32]++tx++[32]))=true) (I':=λ_=>As 63 128 A s) (F':=λ_=>[]) (pe:=λer=>(!BF Hc ([32]++tx++[32]))=false∧er=(ln,co,11)) (M:=λ_=>False) (T:=46) rfl rfl (eC E0 rfl rfl) (λ_ h=>h.elim) (λw f hM=>(Cp w f hM.vl (!BF Hc ([32]++tx++[32])) ln co).mono (λ_ _ ⟨x,f2,h1,h2,h3,h4⟩=>⟨x,f2,h1,h2,h3.mono (λ_ h=>h.elim),(hM.call0 h3).res,h4⟩) λ_ _ h=>h) (λ_=>As.stab) (λ_=>trivial) (λer w2 f2 he hE=>⟨rfl,er,f2,rfl,(by have h9:BF Hc ([32]++tx++[32])=true:=FO he.1;rw[FQ,if_pos (by rw[hdl,h9];rfl),he.2]),hE⟩) ?_;rintro⟨⟩ hnd;have hnd0:¬((BM s.datas tx).isSome||BF Hc ([32]++tx++[32]))=true:=by rw[hdl,show BF Hc ([32]++tx++[32])=false from Fv hnd];decide
  refine Aa 1 [] (λ_=>Ax [0] rfl<|Bo<|Aa 3 [] (λ_=>Z0 (K:=C4) rfl rfl λvm hvm=>Aa 7 [0] (y<|λ_=>By rfl rfl (eC Br rfl rfl) (λw f hM=>Bl w f hM.vl tx) (λx=>trivial) ?_)));rintro⟨⟩ -;refine Aa 19 [0,1] (λb2=>y<|y<|λ_=>QP 3 1<|QP 55 4 ?_);refine GC (α:=Nat×Nd×Int×List (lU×T1)×Ty×List Value×Option Addr×Nat×List Int×Option Addr×Nat) (λx=>x.2.1.len) (λx=>x.1+x.2.1.len=kids.len∧D0 ln co kids s.vars [] .nil []=D0 ln co x.2.1 x.2.2.1 x.2.2.2.1 x.2.2.2.2.1 x.2.2.2.2.2.2.2.2.1∧x.2.2.2.2.1.len=x.2.2.2.2.2.2.2.2.1.length∧x.2.2.2.2.2.2.2.2.1.length≤x.1∧x.2.2.2.2.1.bnd∧Kw (sT x.2.2.2.1)∧(∀n t,BM x.2.2.2.1 n=some t→∃q,t=.var q)∧s.vars-x.1≤x.2.2.1∧x.2.2.1≤s.vars) (λx=>(E8 0 (pB A.cb) 3 (pB b1) 6 (.map (some vm)) 7 (pB b2) 8 (.slice x.2.2.2.2.2.2.2.2.2.1 x.2.2.2.2.2.2.2.2.1.length x.2.2.2.2.2.2.2.2.2.2) 48 (.slice na kids.len nc) 49 (iV (kids.len:Int)) 50 (iV (x.1:Int)))) (λx=>⟨Bz A,λb=>Bz A b∨b=vm,Ei 63 128 A ({s with vars:=x.2.2.1}:CS) vm x.2.2.2.1,w,f⟩) (λx=>[⟨b2,[iV 1,iV 0,S tx,.slice x.2.2.2.2.2.2.1 x.2.2.2.2.2.2.2.2.1.length x.2.2.2.2.2.2.2.1],55,true⟩,⟨b1,[iV op,iV ln,iV co,S tx,iV nm,.slice na kids.len nc],53,true⟩]) (λx=>[⟨55,4,x.2.2.2.2.2.2.1,x.2.2.2.2.2.2.2.1,x.2.2.2.2.2.2.2.2.1.length,x.2.2.2.2.2.1⟩,⟨3,1,x.2.2.2.2.2.2.2.2.2.1,x.2.2.2.2.2.2.2.2.2.2,x.2.2.2.2.2.2.2.2.1.length,x.2.2.2.2.2.2.2.2.1.map λn=>iV n⟩]) (λx=>[]) (λx=>[λw f=>Bt w f na x.1 x.2.1,λw f=>Bi w f x.2.2.2.2.1 x.2.2.2.2.2.1,λw f=>Fg w f,λw f=>AU w f kids na nc]) (0,kids,s.vars,[],.nil,[],none,0,[],none,0) ⟨Nat.zero_add _,rfl,rfl,Nat.le_refl _,tQ,tQ,λ_ _ h=>(by cases h),by dsimp only;omega,Int.le_refl _⟩ lE (λw f hM=>hM.more (B':=[]) (F':=[λw f=>Bt w f na 0 kids,λw f=>Bi w f .nil []]) nE (AI.mem ⟨AU.at hM.f0,rfl,tQ⟩) (Az.mem ⟨Bt.mono,Bi.mono,tQ⟩) |>.less sR sR nE (mR [0,1,3,2])) ?_;rintro⟨i,r,v,m,self,xs,ra,rc,nums,na2,nc2⟩ ⟨hi,hdv,hsl,hnl,hsb,hdm,hmv,hv1,hv2⟩;dsimp only at hi hdv hsl hnl hsb hdm hmv hv1 hv2 ⊢;refine Aa 6 [] (λ_=>AZ 51 rfl rfl (λh1=>?_) (λh1=>?_));refine Aa 6 [] (λ_=>?_);have hil:i<kids.len:=by have:=of_decide_eq_true h1;omega
  obtain⟨op2,ln2,co2,tx2,nm2,k2,r,rfl⟩:=Nd.cases1 r oM;have hi2:i+(r.len+1)=kids.len:=hi;refine Jp 0 rfl ?_;rintro⟨eb,eo,ka,kc⟩ rfl;refine Aa 15 [100,0,0,0] (aI oM<|y2<|λb3=>y<|y<|λ_=>AZ 56 rfl rfl (λh2=>?_) (λh2=>?_));exact Aa 9 [] (aI ⟨oM,oM⟩<|λ_=>DF ((i+1,r,v,m,self,xs,ra,rc,nums,na2,nc2)) (show r.len<(Nd.cons op2 ln2 co2 tx2 nm2 k2 r).len from Nat.lt_succ_self _) ⟨show i+1+r.len=_ by omega,hdv.trans (RZ (by simpa using h2)),hsl,show nums.length≤i+1 by omega,hsb,hdm,hmv,show s.vars-((i+1:Nat):Int)≤v by omega,hv2⟩ lE (λw f hM=>⟨_,hM.less (sD (sK (sK sZ))) sR nE (mR [1,3,4,5])⟩));refine Aa 4 [] (λ_=>?_);have hop2:(op2==31)=true:=by have h9:(op2 != 31)=false:=h2;simpa using h9
  cases hvl:BM m tx2 with
  |none =>
   refine Aa 4 [0] (y<|λ_=>Fm rfl rfl (λw f hM=>JZ (K:=C4) (a:=tx2) rfl rfl Ly Ha M6 hM.res.2 hdm (by rw[Ex (λt=>tV t none 0),hvl];rfl))<|Aa 14 [0,3] (λb4=>y<|y<|λ_=>DK (α:=Unit) (val:=λ_=>.tuple #[]) (q:=λ_=>true=true) (I':=λ_=>Ei 63 128 A ({s with vars:=v}:CS) vm m) (F':=λ_=>[]) (pe:=λer=>true=false∧er=(ln,co,11)) (M:=λ_=>False) (T:=46) rfl rfl (eC E0 rfl rfl) (λ_ h=>h.elim) (λw f hM=>(Cp w f hM.vl true ln co).mono (λ_ _ ⟨x,f2,h1,h2,h3,h4⟩=>⟨x,f2,h1,h2,h3.mono (λ_ h=>h.elim),(hM.call0 h3).res,h4⟩) λ_ _ h=>h) (λ_=>Ei.stab) (λ_=>trivial) (λer w2 f2 he hE=>⟨rfl,er,f2,rfl,(by cases he.1),hE⟩) ?_));rintro⟨⟩ hnd;refine Aa 7 [] (λ_=>Fm (v:=iV v) rfl rfl (λw f hM=>Al rfl HP hM.res.1.blk rfl)<|Aa 3 [] (aI ⟨oM,oM⟩<|λ_=>vV hA hvm rfl rfl rfl HP<|Aa 3 [] (λ_=>LV (λw=>AM w A.cb [pB A.sb,.map (some A.km),.map (some A.dm),.map (some A.rm),iV (v-1)] 63) (λw f h _=>h.1.blk) [0,1,2,3] Aq (rd [0,1,2,3,4,5,6] (.br 7 (.br 8 .fin .fin) .fin)) rfl kR kR kR (λ_ _ _ _ _ h=>h)<|A6 6 [1] (y<|λ_=>Hm rfl rfl rfl (λw hK=>(Al rfl HP hK.2.2 rfl:AL _ _ _ _ _ (iV (v-1)) _))<|Ag rfl ?_ Aj))));refine By rfl rfl (eC Hb rfl rfl) (λw f hM=>DQ w f hM.vl (v-1)) (λx=>trivial) ?_;rintro⟨⟩ -;refine Aa 1 [] (λ_=>Be [0,1,2,3] (λw f h _=>h.1.blk) rfl (λ_ h=>h)<|Ag rfl ?_ Aj);refine wP (q:=v-1) hvm rfl rfl rfl rfl Ly Ha hdm hvl<|Aa 1 [] (λ_=>Be [0,1,2,3] (λw f h _=>h.1.blk) rfl (λ_ h=>h)<|Bo<|Aa 2 [] (λ_=>LV (λw=>AM w A.cb [pB A.sb,.map (some A.km),.map (some A.dm),.map (some A.rm),iV (v-1)] 63) (λw f h _=>h.1.blk) [0,1,3] Aq (rd [0,2,3,4,5] (.br 1 (.br 6 (.br 7 (.br 8 (.rd 9 (.br 10 .fin .fin)) .fin) .fin) .fin) (.br 6 (.br 1 (.br 7 (.br 8 (.rd 9 (.br 10 .fin .fin)) .fin) .fin) (.br 7 (.br 1 (.br 8 (.rd 9 (.br 10 .fin .fin)) .fin) .fin) .fin)) .fin))) rfl kR kR kR (λ_ _ _ _ _ h=>h)<|A6 4 [] (λ_=>Hm rfl rfl rfl (λw hK=>(Al rfl HP hK.2.2 rfl:AL _ _ _ _ _ (iV (v-1)) _))<|Ag rfl ?_ ?_)));refine Aa 2 [2] (y<|λ_=>Be [0,1,3] (λw f h _=>h.1.blk) rfl (λ_ h=>h)<|Ag rfl ?_ Aj);refine By rfl rfl (eC Hb rfl rfl) (λw f hM=>DQ w f hM.vl (v-1)) (λx=>trivial) ?_;rintro⟨⟩ -;refine Aa 1 [] (λ_=>Be [0,1,3] (λw f h _=>h.1.blk) rfl (λ_ h=>h)<|Ag rfl ?_ Aj);refine Aa 2 [] (λb5=>λ_=>Be [1,2,4] (λw f h _=>h.1.blk) rfl (λ_ h=>h)<|Ag rfl ?_ Aj);refine D4 0 0 rfl rfl Df rfl rfl rfl rfl rfl rfl rfl rfl (λ_ _=>rfl) oM oM λra2 rc2=>Aa 1 [] (λ_=>Be [1,2,4] (λw f h _=>h.1.blk) rfl (λ_ h=>h)<|A6 1 [] (λ_=>Ag rfl ?_ Aj));refine Aa 2 [3] (y<|λ_=>Be [1,2,4] (λw f h _=>h.1.blk) rfl (λ_ h=>h)<|Bo<|Aa 6 [] (λ_=>Fm (v:=iV (v-1)) rfl rfl (λw f hM=>Al rfl HP hM.res.1.blk rfl)<|Aa 1 [] (λb6=>λ_=>D4 1 0 rfl rfl LN rfl rfl rfl rfl rfl rfl rfl rfl (λ_ _=>rfl) oM oM λna3 nc3=>Aa 8 [] (aI ⟨oM,oM⟩<|λ_=>?_))))
   exact DF ((i+1,r,v-1,(tx2,.var (v-1))::m,self.snoc (.var (v-1)),xs++tC (.var (v-1)) none 0,ra2,rc2,(nums++[v-1]),na3,nc3)) (show r.len<(Nd.cons op2 ln2 co2 tx2 nm2 k2 r).len from Nat.lt_succ_self _) ⟨show i+1+r.len=_ by omega,hdv.trans (Kl hop2 hvl),show (self.snoc _).len=_ by rw[Ty.len_snoc,hsl,List.length_append];rfl,show (nums++[v-1]).length≤i+1 by rw[List.length_append];simp;omega,Ty.bnd_snoc hsb (Bu _),Ji (λt=>tV t none 0) hdm hvl,λn t h=>by rw[Io] at h;split at h;(cases h;exact⟨_,rfl⟩);exact hmv n t h,show s.vars-((i+1:Nat):Int)≤v-1 by omega,show v-1≤s.vars by omega⟩ (xI rfl rfl rfl rfl (Eq.trans (b:=some (Value.slice na3 (nums.length+1) nc3)) rfl (by dsimp only;rw[List.length_append];rfl)) rfl rfl rfl) (λw f hM=>⟨_,by have hM9:=(hM.more (B':=[]) (F':=[λw f=>Bi w f (self.snoc (.var (v-1))) (xs++tC (.var (v-1)) none 0)]) nE (AI.mem ⟨Bi.snoc (Ai.nil _ _ _ _) hM.f3,tQ⟩) (Az.mem ⟨Bi.mono,tQ⟩)).less (sD (sD (sD (sD (sK (sK sZ)))))) sR (B':=[]) nE (F':=[λw f=>Bt w f (some ⟨eb,eo,none⟩) (i+1) r,λw f=>Bi w f (self.snoc (.var (v-1))) (xs++tC (.var (v-1)) none 0),λw f=>Fg w f,λw f=>AU w f kids (some ⟨eb,eo,none⟩) nc]) (mR [2,0,5,6]);dsimp only;rw[show (nums++[v-1]).length=nums.length+1 by rw[List.length_append];rfl,List.map_append];exact hM9⟩);refine Ag rfl ?_ Aj;refine By rfl rfl (eC Hb rfl rfl) (λw f hM=>DQ w f hM.vl (v-1)) (λx=>trivial) ?_;rintro⟨⟩ -;refine Aa 1 [] (λ_=>Be [0,1,3] (λw f h _=>h.1.blk) rfl (λ_ h=>h)<|Ag rfl ?_ ?_);refine Aa 2 [2] (y<|λ_=>Be [0,1,3] (λw f h _=>h.1.blk) rfl (λ_ h=>h)<|Ag rfl ?_ Aj);refine Aa 2 [] (λb7=>λ_=>Be [1,2,4] (λw f h _=>h.1.blk) rfl (λ_ h=>h)<|Ag rfl ?_ Aj);refine D4 0 0 rfl rfl Df rfl rfl rfl rfl rfl rfl rfl rfl (λ_ _=>rfl) oM oM λra2 rc2=>Aa 1 [] (λ_=>Be [1,2,4] (λw f h _=>h.1.blk) rfl (λ_ h=>h)<|A6 1 [] (λ_=>Ag rfl ?_ Aj));refine Aa 2 [3] (y<|λ_=>Be [1,2,4] (λw f h _=>h.1.blk) rfl (λ_ h=>h)<|Bo<|Aa 6 [] (λ_=>Fm (v:=iV (v-1)) rfl rfl (λw f hM=>Al rfl HP hM.res.1.blk rfl)<|Aa 1 [] (λb8=>λ_=>D4 1 0 rfl rfl LN rfl rfl rfl rfl rfl rfl rfl rfl (λ_ _=>rfl) oM oM λna3 nc3=>Aa 8 [] (aI ⟨oM,oM⟩<|λ_=>?_))))
   exact DF ((i+1,r,v-1,(tx2,.var (v-1))::m,self.snoc (.var (v-1)),xs++tC (.var (v-1)) none 0,ra2,rc2,(nums++[v-1]),na3,nc3)) (show r.len<(Nd.cons op2 ln2 co2 tx2 nm2 k2 r).len from Nat.lt_succ_self _) ⟨show i+1+r.len=_ by omega,hdv.trans (Kl hop2 hvl),show (self.snoc _).len=_ by rw[Ty.len_snoc,hsl,List.length_append];rfl,show (nums++[v-1]).length≤i+1 by rw[List.length_append];simp;omega,Ty.bnd_snoc hsb (Bu _),Ji (λt=>tV t none 0) hdm hvl,λn t h=>by rw[Io] at h;split at h;(cases h;exact⟨_,rfl⟩);exact hmv n t h,show s.vars-((i+1:Nat):Int)≤v-1 by omega,show v-1≤s.vars by omega⟩ (xI rfl rfl rfl rfl (Eq.trans (b:=some (Value.slice na3 (nums.length+1) nc3)) rfl (by dsimp only;rw[List.length_append];rfl)) rfl rfl rfl) (λw f hM=>⟨_,by have hM9:=(hM.more (B':=[]) (F':=[λw f=>Bi w f (self.snoc (.var (v-1))) (xs++tC (.var (v-1)) none 0)]) nE (AI.mem ⟨Bi.snoc (Ai.nil _ _ _ _) hM.f3,tQ⟩) (Az.mem ⟨Bi.mono,tQ⟩)).less (sD (sD (sD (sD (sK (sK sZ)))))) sR (B':=[]) nE (F':=[λw f=>Bt w f (some ⟨eb,eo,none⟩) (i+1) r,λw f=>Bi w f (self.snoc (.var (v-1))) (xs++tC (.var (v-1)) none 0),λw f=>Fg w f,λw f=>AU w f kids (some ⟨eb,eo,none⟩) nc]) (mR [2,0,5,6]);dsimp only;rw[show (nums++[v-1]).length=nums.length+1 by rw[List.length_append];rfl,List.map_append];exact hM9⟩);refine Ag rfl ?_ Aj;refine Aa 2 [] (λb9=>λ_=>Be [1,2,4] (λw f h _=>h.1.blk) rfl (λ_ h=>h)<|Ag rfl ?_ Aj);refine Aa 2 [3] (y<|λ_=>Be [1,2,4] (λw f h _=>h.1.blk) rfl (λ_ h=>h)<|Ag rfl ?_ Aj);refine D4 0 0 rfl rfl Df rfl rfl rfl rfl rfl rfl rfl rfl (λ_ _=>rfl) oM oM λra2 rc2=>Aa 1 [] (λ_=>Be [1,2,4] (λw f h _=>h.1.blk) rfl (λ_ h=>h)<|A6 1 [] (λ_=>Ag rfl ?_ Aj));refine Aa 2 [3] (y<|λ_=>Be [1,2,4] (λw f h _=>h.1.blk) rfl (λ_ h=>h)<|Bo<|Aa 6 [] (λ_=>Fm (v:=iV (v-1)) rfl rfl (λw f hM=>Al rfl HP hM.res.1.blk rfl)<|Aa 1 [] (λb10=>λ_=>D4 1 0 rfl rfl LN rfl rfl rfl rfl rfl rfl rfl rfl (λ_ _=>rfl) oM oM λna3 nc3=>Aa 8 [] (aI ⟨oM,oM⟩<|λ_=>?_))))
   exact DF ((i+1,r,v-1,(tx2,.var (v-1))::m,self.snoc (.var (v-1)),xs++tC (.var (v-1)) none 0,ra2,rc2,(nums++[v-1]),na3,nc3)) (show r.len<(Nd.cons op2 ln2 co2 tx2 nm2 k2 r).len from Nat.lt_succ_self _) ⟨show i+1+r.len=_ by omega,hdv.trans (Kl hop2 hvl),show (self.snoc _).len=_ by rw[Ty.len_snoc,hsl,List.length_append];rfl,show (nums++[v-1]).length≤i+1 by rw[List.length_append];simp;omega,Ty.bnd_snoc hsb (Bu _),Ji (λt=>tV t none 0) hdm hvl,λn t h=>by rw[Io] at h;split at h;(cases h;exact⟨_,rfl⟩);exact hmv n t h,show s.vars-((i+1:Nat):Int)≤v-1 by omega,show v-1≤s.vars by omega⟩ (xI rfl rfl rfl rfl (Eq.trans (b:=some (Value.slice na3 (nums.length+1) nc3)) rfl (by dsimp only;rw[List.length_append];rfl)) rfl rfl rfl) (λw f hM=>⟨_,by have hM9:=(hM.more (B':=[]) (F':=[λw f=>Bi w f (self.snoc (.var (v-1))) (xs++tC (.var (v-1)) none 0)]) nE (AI.mem ⟨Bi.snoc (Ai.nil _ _ _ _) hM.f3,tQ⟩) (Az.mem ⟨Bi.mono,tQ⟩)).less (sD (sD (sD (sD (sK (sK sZ)))))) sR (B':=[]) nE (F':=[λw f=>Bt w f (some ⟨eb,eo,none⟩) (i+1) r,λw f=>Bi w f (self.snoc (.var (v-1))) (xs++tC (.var (v-1)) none 0),λw f=>Fg w f,λw f=>AU w f kids (some ⟨eb,eo,none⟩) nc]) (mR [2,0,5,6]);dsimp only;rw[show (nums++[v-1]).length=nums.length+1 by rw[List.length_append];rfl,List.map_append];exact hM9⟩)
  |some tv =>
   obtain⟨q0,rfl⟩:=hmv tx2 tv hvl;exact Aa 4 [0] (y<|λ_=>Fm rfl rfl (λw f hM=>Kj (K:=C4) (a:=tx2) (v:=tV (.var q0) none 0) rfl rfl Ly Ha M6 hM.res.2 hdm (by rw[Ex (λt=>tV t none 0),hvl];rfl))<|Aa 14 [0,3] (λb11=>y<|y<|λ_=>MZ rfl rfl (eC E0 rfl rfl) (λ_ h=>h.elim) (λw f hM=>(Cp w f hM.vl false ln co).mono (λ_ _ ⟨_,_,_,h,_⟩=>by cases h) λ_ _ h=>h) (λer w2 f2 he hE=>⟨rfl,er,f2,rfl,(by rw[FQ,if_neg hnd0,hdv,U0 hop2 hvl,he.2]),hE⟩)))
  refine Aa 3 [] (λ_=>Gp<|Aa 3 [] (λ_=>?_));obtain rfl:r=.nil:=Nd.len0 (by have:=of_decide_eq_false h1;omega);have hdv2:D0 ln co kids s.vars [] .nil []=.ok (v,m,self,nums):=hdv;have hil0:i≤kids.len:=oM;refine QU (λw f=>Ai w f self ra rc) Ai.mono (λw f hM=>Hs hM hM.f1)<|QU (λw f=>BP w f nums na2 nc2) BP.mono (λw f hM=>Mr hM) ?_;have hwv:DD ({s with vars:=v}:CS):=hw.setVars;refine LV (λw=>AM w A.cb [pB A.sb,.map (some A.km),.map (some A.dm),.map (some A.rm),iV v] 63) (λw f h _=>h.1.blk) [0,1] Aq (rd [0,1,2,3,4,5,6,7] (.br 8 .fin .fin)) rfl kR kR kR (λ_ _ _ _ _ h=>h)<|A6 3 [] (λ_=>Hm rfl rfl rfl (λw hK=>Al rfl Tf hK.2.2 rfl)<|A6 4 [1] (y<|λ_=>Ag rfl ?_ Aj));refine rJ hA hvm hwv rfl rfl rfl rfl So Ha hdl<|Aa 1 [] (λ_=>Be [0,1] (λw f h _=>h.1.blk) rfl (λ_ h=>h)<|Bo<|Aa 10 [1] (y<|λ_=>?_));refine GC (α:=Nat×Nd×List (lU×Mk)) (λx=>x.2.1.len) (λx=>x.1+x.2.1.len=kids.len∧Dh ((tx,(nums.length:Int))::s.datas) m (.con tx self) nums kids s.cons=Dh ((tx,(nums.length:Int))::s.datas) m (.con tx self) nums x.2.1 x.2.2∧DD ({s with vars:=v,datas:=(tx,(nums.length:Int))::s.datas,cons:=x.2.2}:CS)∧x.2.1.txb∧x.2.1.size≤kids.size) (λx=>(E7 0 (pB A.cb) 6 (.map (some vm)) 7 (pB b2) 8 (.slice na2 nums.length nc2) 111 (.slice na kids.len nc) 112 (iV (kids.len:Int)) 113 (iV (x.1:Int)))) (λx=>⟨Bz A,λb=>Bz A b∨b=vm,Ei 63 128 A ({s with vars:=v,datas:=(tx,(nums.length:Int))::s.datas,cons:=x.2.2}:CS) vm m,w,f⟩) (λx=>[⟨b2,[iV 1,iV 0,S tx,.slice ra nums.length rc],55,true⟩,⟨b1,[iV op,iV ln,iV co,S tx,iV nm,.slice na kids.len nc],53,true⟩]) (λx=>[]) (λx=>[]) (λx=>[λw f=>Bt w f na x.1 x.2.1,λw f=>BP w f nums na2 nc2,λw f=>Ai w f self ra rc,λw f=>Fg w f]) (0,kids,s.cons) ⟨Nat.zero_add _,rfl,(hwv.addData hdl),htb0,Nat.le_refl _⟩ lE (λw f hM=>hM.more (B':=[]) (F':=[λw f=>Bt w f na 0 kids]) nE (AI.mem ⟨AU.at hM.f5,tQ⟩) (Az.mem ⟨Bt.mono,tQ⟩) |>.less sR sR nE (mR [0,1,2,5])) ?_;rintro⟨j,r,cl⟩ ⟨hi3,hdc,hwc,htxb,hrs⟩;dsimp only at hi3 hdc hwc htxb hrs ⊢;refine Aa 6 [] (λ_=>AZ 114 rfl rfl (λh3=>?_) (λh3=>?_));refine Aa 6 [] (λ_=>?_);have hil:j<kids.len:=by have:=of_decide_eq_true h3;omega
  obtain⟨op2,ln2,co2,tx2,nm2,k2,r,rfl⟩:=Nd.cases1 r oM;have hi2:j+(r.len+1)=kids.len:=hi3;obtain⟨htx2,hkx2,hrx2⟩:=htxb;have hrs2:k2.size+r.size+1≤kids.size:=hrs;have hkl2:=Nd.len_le k2;refine Jp 0 rfl ?_;rintro⟨eb,eo,ka,kc⟩ rfl;refine Aa 15 [100,0,0,0] (aI oM<|y2<|λb12=>y<|y<|λ_=>AZ 119 rfl rfl (λh4=>?_) (λh4=>?_));exact Aa 9 [] (aI ⟨oM,oM⟩<|λ_=>DF ((j+1,r,cl)) (show r.len<(Nd.cons op2 ln2 co2 tx2 nm2 k2 r).len from Nat.lt_succ_self _) ⟨show j+1+r.len=_ by omega,hdc.trans (Sr (by simpa using h4)),hwc,hrx2,show r.size≤_ by omega⟩ lE (λw f hM=>⟨_,hM.less (sD (sK (sK sZ))) sR nE (mR [1,3,4,5])⟩));refine Aa 4 [] (λ_=>?_);have hop2:(op2==42)=true:=by have h9:(op2 != 42)=false:=h4;simpa using h9
  refine rQ (λes w f=>Ei 63 128 A ({s with vars:=v,datas:=(tx,(nums.length:Int))::s.datas,cons:=cl}:CS) vm m w f∧Ch C4 w A.km es∧BY w f cl es) (λw f h=>let ⟨es,h1,h2⟩:=h.1.cons;⟨es,h,h1,h2⟩) (λes w f w' f' h hF hb=>⟨Ei.stab w f w' f' h.1 hF hb,h.2.1.heap (hb _ (.inl (.inr (.inr (.inr (.inl rfl)))))),BY.mono hF _ _ h.2.2⟩) λes=>JU (λw f hM=>(show Kw es from BY.dis hM.res.2.2 hwc.dc)) λhdis=>?_
  cases hcl:BM cl tx2 with
  |none =>
   refine JU (λw f hM=>(BY.look hM.res.2.2).1 hcl) λhlk=>LV (λw=>AM w A.cb [pB A.sb,.map (some A.km),.map (some A.dm),.map (some A.rm),iV v] 63∧Ch C4 w A.km es) (λw f h _=>⟨h.1.1.blk,h.2.1⟩) [0,1,2] Aq (rd [0,1,2,3,4,5,6,7,8,9] (.br 10 (.br 11 (.rd 12 .fin) .fin) .fin)) rfl kR kR kR (λ_ _ _ _ _ h=>h)<|A6 3 [] (λ_=>Hm rfl rfl rfl (λw hK=>Al rfl OQ hK.2.2.1 rfl)<|A6 2 [0] (y<|λ_=>Hm rfl rfl rfl (λw hK=>JZ (K:=C4) (a:=tx2) rfl rfl O5 Ha VM hK.2.2.2 hdis hlk)<|A6 3 [] (λ_=>Ag rfl ?_ Aj)));refine Aa 2 [] (λb13=>λ_=>Be [1,2,3] (λw f h _=>⟨h.1.1.blk,h.2.1⟩) rfl (λ_ h=>h)<|Ag rfl ?_ Aj);refine Aa 2 [0] (y<|λ_=>Be [1,2,3] (λw f h _=>⟨h.1.1.blk,h.2.1⟩) rfl (λ_ h=>h)<|A6 1 [] (λ_=>Bo<|Aa 7 [1] (y<|λ_=>DK (α:=Unit) (val:=λ_=>.tuple #[]) (q:=λ_=>true=true) (I':=λ_=>Ei 63 128 A ({s with vars:=v,datas:=(tx,(nums.length:Int))::s.datas,cons:=cl}:CS) vm m) (F':=λ_=>[]) (pe:=λer=>true=false∧er=(ln2,co2,11)) (M:=λ_=>False) (T:=46) rfl rfl (eC E0 rfl rfl) (λ_ h=>h.elim) (λw f hM=>(Cp w f hM.vl true ln2 co2).mono (λ_ _ ⟨x,f2,h1,h2,h3,h4⟩=>⟨x,f2,h1,h2,h3.mono (λ_ h=>h.elim),(hM.call0 h3).res.1,h4⟩) λ_ _ h=>h) (λ_=>Ei.stab) (λ_=>trivial) (λer w2 f2 he hE=>⟨rfl,er,f2,rfl,(by cases he.1),hE⟩) ?_)));rintro⟨⟩ hnd;refine Aa 21 [2,0,2] (y<|λb14=>y<|y<|λ_=>QP 55 4 ?_);refine GC (α:=Nat×Nd×Ty×List Value×Option Addr×Nat) (λx=>x.2.1.len) (λx=>x.1+x.2.1.len=k2.len∧x.2.2.1.len=x.1∧Fw ((tx,(nums.length:Int))::s.datas) m k2=(match Fw ((tx,(nums.length:Int))::s.datas) m x.2.1 with|.error x=>.error x|.ok l=>.ok (x.2.2.1.app l))∧x.2.2.1.bnd∧x.2.1.txb∧x.2.1.size≤k2.size) (λx=>(zC 0 (pB A.cb) 6 (.map (some vm)) 7 (pB b2) 8 (.slice na2 nums.length nc2) 14 (pB b12) 17 (pB b14) 111 (.slice (some ⟨eb,eo,none⟩) kids.len nc) 112 (iV (kids.len:Int)) 113 (iV (j:Int)) 139 (.slice ka k2.len kc) 140 (iV (k2.len:Int)) 141 (iV (x.1:Int)))) (λx=>⟨Bz A,λb=>Bz A b∨b=vm,Ei 63 128 A ({s with vars:=v,datas:=(tx,(nums.length:Int))::s.datas,cons:=cl}:CS) vm m,w,f⟩) (λx=>[⟨b14,[.slice x.2.2.2.2.1 x.1 x.2.2.2.2.2,iV 1,iV 0,S tx,.slice ra nums.length rc,.slice na2 nums.length nc2],91,true⟩,⟨b12,Mg op2 ln2 co2 tx2 nm2 ka k2.len kc,53,true⟩,⟨b2,[iV 1,iV 0,S tx,.slice ra nums.length rc],55,true⟩,⟨b1,[iV op,iV ln,iV co,S tx,iV nm,.slice (some ⟨eb,eo,none⟩) kids.len nc],53,true⟩]) (λx=>[⟨55,4,x.2.2.2.2.1,x.2.2.2.2.2,x.1,x.2.2.2.1⟩]) (λx=>[]) (λx=>[λw f=>Bt w f ka x.1 x.2.1,λw f=>Bi w f x.2.2.1 x.2.2.2.1,λw f=>Fg w f,λw f=>BP w f nums na2 nc2,λw f=>Ai w f self ra rc,λw f=>Bt w f (some ⟨eb,eo,none⟩) (j+1) r]) (0,k2,.nil,[],none,0) ⟨Nat.zero_add _,rfl,MT,tQ,hkx2,Nat.le_refl _⟩ lE (λw f hM=>hM.more (B':=[]) (F':=[λw f=>Bt w f ka 0 k2,λw f=>Bi w f .nil []]) nE (AI.mem ⟨AU.at hM.f0,rfl,tQ⟩) (Az.mem ⟨Bt.mono,Bi.mono,tQ⟩) |>.less (sK (sD (sK (sK (sK sZ))))) sR nE (mR [0,1,7,5,6,3])) ?_;rintro⟨i4,r4,dn,xs4,ra5,rc5⟩ ⟨hi4,hdl2,hty,hdb,htxb4,hrs4⟩
   dsimp only at hi4 hdl2 hty hdb htxb4 hrs4 ⊢;refine Aa 6 [] (λ_=>AZ 142 rfl rfl (λh5=>?_) (λh5=>?_));refine Aa 6 [] (λ_=>?_);have hil4:i4<k2.len:=by have:=of_decide_eq_true h5;omega
   obtain⟨op3,ln3,co3,tx3,nm3,k3,r4,rfl⟩:=Nd.cases1 r4 oM;have hi5:i4+(r4.len+1)=k2.len:=hi4;obtain⟨htx3,hkx3,hrx3⟩:=htxb4;have hrs4b:k3.size+r4.size+1≤k2.size:=hrs4;refine Jp 0 rfl ?_;rintro⟨eb4,eo4,ka4,kc4⟩ rfl;refine Aa 7 [100,0,0] (aI oM<|y2<|λb15=>y<|λ_=>CU [0,2,3,4] Aq (rd [0,2,3,4] (.br 1 (.br 5 (.br 6 (.br 7 (.rd 8 (.br 9 .fin .fin)) .fin) .fin) .fin) (.br 5 (.br 1 (.br 6 (.br 7 (.rd 8 (.br 9 .fin .fin)) .fin) .fin) (.br 6 (.br 1 (.br 7 (.rd 8 (.br 9 .fin .fin)) .fin) .fin) .fin)) .fin))) rfl kR<|A6 4 [0] (y<|λ_=>Ag rfl ?_ ?_));refine Aa 2 [1] (y<|λ_=>Ax [0,2,3,4] rfl<|Ag rfl ?_ Aj);refine DK (I':=λ_=>Ei 63 128 A ({s with vars:=v,datas:=(tx,(nums.length:Int))::s.datas,cons:=cl}:CS) vm m) (M:=λ_=>False) (α:=T1×Option Addr×Nat) (val:=λx=>tV x.1 x.2.1 x.2.2) (q:=λx=>CB ((tx,(nums.length:Int))::s.datas) m op3 ln3 co3 tx3 k3=.ok x.1∧x.1.bnd) (F':=λx=>[λw f=>Ai w f x.1.kids x.2.1 x.2.2]) (pe:=λer=>CB ((tx,(nums.length:Int))::s.datas) m op3 ln3 co3 tx3 k3=.error er) (T:=46) rfl rfl (eC NO rfl rfl) (λ_ h=>h.elim) (λw f hM=>(KC (k3.size+1) w f hM.vl A ({s with vars:=v,datas:=(tx,(nums.length:Int))::s.datas,cons:=cl}:CS) hM.res.1 hwc hM.f4 op3 ln3 co3 nm3 tx3 k3 ka4 kc4 (.map (some vm)) m (Nat.lt_succ_self _) oM htx3 hkx3 (.inr ⟨vm,rfl,hM.res.2,hdm,hmv⟩) hM.f0).mono (λ_ _ ⟨x,f2,h1,h2,h3,h4⟩=>⟨x,f2,h1,h2,h3.mono (λ_ h=>h.elim),(hM.call0 h3).res,h4⟩) λ_ _ h=>h) (λ_=>Ei.stab) (λ_=>⟨Ai.mono,tQ⟩) (λer w2 f2 he hE=>⟨rfl,er,f2,rfl,(by rw[FQ,if_neg hnd0,hdv2];simp only;rw[hdc,Nz hop2 hcl (by rw[hty,Jc he])]),hE⟩) ?_;rintro⟨q5,qa,qc⟩ ⟨hp5,hqb⟩;dsimp only at hp5 hqb ⊢;refine Aa 1 [] (λ_=>Ax [0,2,3,4] rfl<|Ag rfl ?_ Aj);refine Aa 2 [] (λb16=>λ_=>Ax [1,3,4,5] rfl<|Ag rfl ?_ Aj);refine D4 0 0 rfl rfl Df rfl rfl rfl rfl rfl rfl rfl rfl (λ_ _=>rfl) oM oM λra6 rc6=>Aa 1 [] (λ_=>Ax [1,3,4,5] rfl<|A6 1 [] (λ_=>Ag rfl ?_ Aj));exact Aa 2 [2] (y<|λ_=>Ax [1,3,4,5] rfl<|Bo<|Aa 6 [] (aI ⟨oM,oM⟩<|λ_=>DF ((i4+1,r4,dn.snoc q5,xs4++tC q5 qa qc,ra6,rc6)) (show r4.len<(Nd.cons op3 ln3 co3 tx3 nm3 k3 r4).len from Nat.lt_succ_self _) ⟨show i4+1+r4.len=_ by omega,show (dn.snoc _).len=i4+1 by rw[Ty.len_snoc,hdl2],hty.trans (G5 hp5),show (dn.snoc _).bnd from Ty.bnd_snoc hdb hqb,hrx3,show r4.size≤_ by omega⟩ lE (λw f hM=>⟨_,(hM.more (B':=[]) (F':=[λw f=>Bi w f (dn.snoc q5) (xs4++tC q5 qa qc)]) nE (AI.mem ⟨Bi.snoc hM.f0 hM.f4,tQ⟩) (Az.mem ⟨Bi.mono,tQ⟩)).less (sD (sD (sK (sK (sK (sK sZ)))))) sR nE (mR [3,0,6,7,8,9])⟩)));refine Ag rfl ?_ Aj
   refine DK (I':=λ_=>Ei 63 128 A ({s with vars:=v,datas:=(tx,(nums.length:Int))::s.datas,cons:=cl}:CS) vm m) (M:=λ_=>False) (α:=T1×Option Addr×Nat) (val:=λx=>tV x.1 x.2.1 x.2.2) (q:=λx=>CB ((tx,(nums.length:Int))::s.datas) m op3 ln3 co3 tx3 k3=.ok x.1∧x.1.bnd) (F':=λx=>[λw f=>Ai w f x.1.kids x.2.1 x.2.2]) (pe:=λer=>CB ((tx,(nums.length:Int))::s.datas) m op3 ln3 co3 tx3 k3=.error er) (T:=46) rfl rfl (eC NO rfl rfl) (λ_ h=>h.elim) (λw f hM=>(KC (k3.size+1) w f hM.vl A ({s with vars:=v,datas:=(tx,(nums.length:Int))::s.datas,cons:=cl}:CS) hM.res.1 hwc hM.f4 op3 ln3 co3 nm3 tx3 k3 ka4 kc4 (.map (some vm)) m (Nat.lt_succ_self _) oM htx3 hkx3 (.inr ⟨vm,rfl,hM.res.2,hdm,hmv⟩) hM.f0).mono (λ_ _ ⟨x,f2,h1,h2,h3,h4⟩=>⟨x,f2,h1,h2,h3.mono (λ_ h=>h.elim),(hM.call0 h3).res,h4⟩) λ_ _ h=>h) (λ_=>Ei.stab) (λ_=>⟨Ai.mono,tQ⟩) (λer w2 f2 he hE=>⟨rfl,er,f2,rfl,(by rw[FQ,if_neg hnd0,hdv2];simp only;rw[hdc,Nz hop2 hcl (by rw[hty,Jc he])]),hE⟩) ?_;rintro⟨q5,qa,qc⟩ ⟨hp5,hqb⟩;dsimp only at hp5 hqb ⊢;refine Aa 1 [] (λ_=>Ax [0,2,3,4] rfl<|Ag rfl ?_ ?_);refine Aa 2 [1] (y<|λ_=>Ax [0,2,3,4] rfl<|Ag rfl ?_ Aj);refine Aa 2 [] (λb17=>λ_=>Ax [1,3,4,5] rfl<|Ag rfl ?_ Aj);refine D4 0 0 rfl rfl Df rfl rfl rfl rfl rfl rfl rfl rfl (λ_ _=>rfl) oM oM λra6 rc6=>Aa 1 [] (λ_=>Ax [1,3,4,5] rfl<|A6 1 [] (λ_=>Ag rfl ?_ Aj));exact Aa 2 [2] (y<|λ_=>Ax [1,3,4,5] rfl<|Bo<|Aa 6 [] (aI ⟨oM,oM⟩<|λ_=>DF ((i4+1,r4,dn.snoc q5,xs4++tC q5 qa qc,ra6,rc6)) (show r4.len<(Nd.cons op3 ln3 co3 tx3 nm3 k3 r4).len from Nat.lt_succ_self _) ⟨show i4+1+r4.len=_ by omega,show (dn.snoc _).len=i4+1 by rw[Ty.len_snoc,hdl2],hty.trans (G5 hp5),show (dn.snoc _).bnd from Ty.bnd_snoc hdb hqb,hrx3,show r4.size≤_ by omega⟩ lE (λw f hM=>⟨_,(hM.more (B':=[]) (F':=[λw f=>Bi w f (dn.snoc q5) (xs4++tC q5 qa qc)]) nE (AI.mem ⟨Bi.snoc hM.f0 hM.f4,tQ⟩) (Az.mem ⟨Bi.mono,tQ⟩)).less (sD (sD (sK (sK (sK (sK sZ)))))) sR nE (mR [3,0,6,7,8,9])⟩)));refine Ag rfl ?_ Aj;refine Aa 2 [] (λb18=>λ_=>Ax [1,3,4,5] rfl<|Ag rfl ?_ Aj);refine Aa 2 [2] (y<|λ_=>Ax [1,3,4,5] rfl<|Ag rfl ?_ Aj);refine D4 0 0 rfl rfl Df rfl rfl rfl rfl rfl rfl rfl rfl (λ_ _=>rfl) oM oM λra6 rc6=>Aa 1 [] (λ_=>Ax [1,3,4,5] rfl<|A6 1 [] (λ_=>Ag rfl ?_ Aj));exact Aa 2 [2] (y<|λ_=>Ax [1,3,4,5] rfl<|Bo<|Aa 6 [] (aI ⟨oM,oM⟩<|λ_=>DF ((i4+1,r4,dn.snoc q5,xs4++tC q5 qa qc,ra6,rc6)) (show r4.len<(Nd.cons op3 ln3 co3 tx3 nm3 k3 r4).len from Nat.lt_succ_self _) ⟨show i4+1+r4.len=_ by omega,show (dn.snoc _).len=i4+1 by rw[Ty.len_snoc,hdl2],hty.trans (G5 hp5),show (dn.snoc _).bnd from Ty.bnd_snoc hdb hqb,hrx3,show r4.size≤_ by omega⟩ lE (λw f hM=>⟨_,(hM.more (B':=[]) (F':=[λw f=>Bi w f (dn.snoc q5) (xs4++tC q5 qa qc)]) nE (AI.mem ⟨Bi.snoc hM.f0 hM.f4,tQ⟩) (Az.mem ⟨Bi.mono,tQ⟩)).less (sD (sD (sK (sK (sK (sK sZ)))))) sR nE (mR [3,0,6,7,8,9])⟩)));refine Aa 3 [] (λ_=>Gp<|Aa 2 [] (λ_=>?_));obtain rfl:r4=.nil:=Nd.len0 (by have:=of_decide_eq_false h5;omega)
   have hty2:Fw ((tx,(nums.length:Int))::s.datas) m k2=.ok dn:=by rw[hty];show (Except.ok (dn.app .nil):RI Ty)=_;rw[Ty.app_nil]
   have hdk:dn.len≤200000:=by have:i4+0=k2.len:=hi4;omega
   subst hdl2;refine QU (λw f=>Ai w f dn ra5 rc5) Ai.mono (λw f hM=>Hs hM hM.f1)<|LV (λw=>AM w A.cb [pB A.sb,.map (some A.km),.map (some A.dm),.map (some A.rm),iV v] 63) (λw f h _=>h.1.blk) [0,1,2,3] Aq (rd [0,1,2,3,4,5,6] (.br 7 .fin .fin)) rfl kR kR kR (λ_ _ _ _ _ h=>h)<|A6 3 [] (λ_=>Hm rfl rfl rfl (λw hK=>Al rfl OQ hK.2.2 rfl)<|A6 3 [1,0] (y<|y<|λ_=>Ag rfl ?_ Aj));exact uC (m:=⟨dn,.con tx self,nums⟩) (aa:=ra5) (ac:=rc5) (oa:=ra) (oc:=rc) (va:=na2) (vc:=nc2) (i1:=0) (i2:=5) (i3:=4) hA hvm hwc rfl rfl rfl rfl (by unfold bV tC;simp only[T1.kids,hsl];rfl) O5 Ha hcl rfl rfl rfl<|Aa 1 [] (λ_=>Be [0,1,2,3] (λw f h _=>h.1.blk) rfl (λ_ h=>h)<|Bo<|Aa 6 [] (aI ⟨oM,oM⟩<|λ_=>DF ((j+1,r,(tx2,⟨dn,.con tx self,nums⟩)::cl)) (show r.len<(Nd.cons op2 ln2 co2 tx2 nm2 k2 r).len from Nat.lt_succ_self _) ⟨show j+1+r.len=_ by omega,hdc.trans (Tr hop2 hcl hty2),hwc.addCons hcl ⟨hdk,hdb,Dm oM oM hsb,by dsimp only;omega⟩,hrx2,show r.size≤_ by omega⟩ lE (λw f hM=>⟨_,hM.less (sD (sD (sK (sK sZ)))) sR nE (mR [6,4,5,3])⟩)))
  |some mk =>
   refine LQ (α:=Option Addr×Nat×Option Addr×Nat×Option Addr×Nat) (λx=>Fp es tx2=some (.agg (bV mk x.1 x.2.1 x.2.2.1 x.2.2.2.1 x.2.2.2.2.1 x.2.2.2.2.2).toArray)) (λx=>[]) (λx=>[]) (λw f hM=>let ⟨aa,ac,oa,oc,va,vc,h1,_⟩:=(BY.look hM.res.2.2).2 mk hcl;⟨(aa,ac,oa,oc,va,vc),h1,nE,nE⟩) (λx _ h=>by cases h) ?_;rintro⟨aa,ac,oa,oc,va,vc⟩ hlk;refine LV (λw=>AM w A.cb [pB A.sb,.map (some A.km),.map (some A.dm),.map (some A.rm),iV v] 63∧Ch C4 w A.km es) (λw f h _=>⟨h.1.1.blk,h.2.1⟩) [0,1,2] Aq (rd [0,1,2,3,4,5,6,7,8,9] (.br 10 (.br 11 (.rd 12 .fin) .fin) .fin)) rfl kR kR kR (λ_ _ _ _ _ h=>h)<|A6 3 [] (λ_=>Hm rfl rfl rfl (λw hK=>Al rfl OQ hK.2.2.1 rfl)<|A6 2 [0] (y<|λ_=>Hm rfl rfl rfl (λw hK=>Kj (K:=C4) (a:=tx2) rfl rfl O5 Ha VM hK.2.2.2 hdis hlk)<|A6 3 [] (λ_=>Ag rfl ?_ Aj)));refine Aa 2 [] (λb19=>λ_=>Be [1,2,3] (λw f h _=>⟨h.1.1.blk,h.2.1⟩) rfl (λ_ h=>h)<|Ag rfl ?_ Aj);exact Aa 2 [0] (y<|λ_=>Be [1,2,3] (λw f h _=>⟨h.1.1.blk,h.2.1⟩) rfl (λ_ h=>h)<|A6 1 [] (λ_=>Bo<|Aa 7 [1] (y<|λ_=>MZ rfl rfl (eC E0 rfl rfl) (λ_ h=>h.elim) (λw f hM=>(Cp w f hM.vl false ln2 co2).mono (λ_ _ ⟨_,_,_,h,_⟩=>by cases h) λ_ _ h=>h) (λer w2 f2 he hE=>⟨rfl,er,f2,rfl,(by rw[FQ,if_neg hnd0,hdv2];simp only;rw[hdc,QJ hop2 hcl,he.2]),hE⟩))))
  refine Aa 3 [] (λ_=>Gp<|Aa 1 [] (λ_=>?_));obtain rfl:r=.nil:=Nd.len0 (by have:=of_decide_eq_false h3;omega);have hdc2:Dh ((tx,(nums.length:Int))::s.datas) m (.con tx self) nums kids s.cons=.ok cl:=hdc;exact eU (λw f hM=>DE rfl) (λw f hM=>⟨({s with vars:=v,datas:=(tx,(nums.length:Int))::s.datas,cons:=cl}:CS),f,rfl,⟨(by rw[FQ,if_neg hnd0,hdv2];simp only;rw[hdc2]),hwc,rfl,by dsimp only;omega,hv2⟩,hM.exm,hM.res.1,tQ⟩)
 |some cnt =>
  refine LV (λw=>AM w A.cb [pB A.sb,.map (some A.km),.map (some A.dm),.map (some A.rm),iV s.vars] 63∧Ch C4 w A.dm (s.datas.map λp=>(p.1,iV p.2))) (λw f h _=>⟨h.blk,h.datas⟩) [0] Aq (rd [0,1,2,3,4,5,6,7,8,9,10,11] .fin) rfl kR kR kR (λ_ _ _ _ _ h=>h)<|A6 3 [] (λ_=>Hm rfl rfl rfl (λw hK=>Al rfl Tf hK.2.2.1 rfl)<|A6 2 [0] (y<|λ_=>Hm rfl rfl rfl (λw hK=>Kj (K:=C4) (a:=tx) (v:=iV cnt) rfl rfl So Ha cN hK.2.2.2 hw.dd (by rw[Ex (λc=>Value.int .i64 c),hdl];rfl))<|A6 5 [] (λ_=>Bo<|Aa 2 [] (λ_=>CU [0] Aq (rd [0,1,2,3,4,5,6,10,11] (.br 7 (.rd 8 (.rd 9 (.br 12 .fin .fin))) .fin)) rfl kR<|A6 9 [0] (y<|λ_=>?_)))));refine Ag rfl ?_ Aj;refine Aa 2 [] (λ_=>Ax [0] rfl<|A6 2 [] (λ_=>Ag rfl ?_ Aj));exact MZ rfl rfl (eC E0 rfl rfl) (λ_ h=>h.elim) (λw f hM=>(Cp w f hM.vl false ln co).mono (λ_ _ ⟨_,_,_,h,_⟩=>by cases h) λ_ _ h=>h) (λer w2 f2 he hE=>⟨rfl,er,f2,rfl,(by rw[FQ,if_pos (by rw[hdl];rfl),he.2]),hE⟩)
theorem Zt(w:World)(f:Fq)(hv:Vl w f)(hG:Fg w f)(ob:Nat)(oa:Option Addr)(oc n0:Nat)(oxs:List Value)(l:List SE)(hP:DN 92 95 ob (.slice oa n0 oc) oa oc n0 oxs w f)(hL:CW w f l oxs)(hf:∀b,Om ob oa b→f b=0)(hn0:n0≤1000)(nms:lU)(fs:List lU)(hfs:Lib.fields nms=fs)(hns:nms.length≤1000)(hasc:nms.all (λc=>decide (c.toNat<128))=true)(hfl:fs.length≤1000)(k:Ty)(ka:Option Addr)(kc:Nat)(hk0:0<k.len)(hkl:k.len≤1000)(hkb:k.bnd)(hT:Ai w f k ka kc) :
  B3 prog 66 #[S nms,.slice ka k.len kc,pB ob] w (O1 (α:=Option Addr×Nat×List Value) (λ_=>.tuple #[]) (λ_=>True) (Om ob oa) (λx=>Om ob x.1) (λx=>DN 92 95 ob (.slice x.1 (n0+fs.length) x.2.1) x.1 x.2.1 (n0+fs.length) x.2.2) (λx=>[λw f=>CW w f (l++fs.map (λnm=>(nm,(k.len:Int)-1,Gt k))) x.2.2]) w f):=by
 refine CV (X:=⟨Om ob oa,Om ob oa,DN 92 95 ob (.slice oa n0 oc) oa oc n0 oxs,w,f⟩) (H:=[]) (R:=[]) (B:=[]) (Fs:=[λw f=>Fg w f,λw f=>Ai w f k ka kc,λw f=>CW w f l oxs]) (f:=f) func66 rfl rfl rfl (YX (M:=Om ob oa) hv hP DN.stab (λb hb=>⟨hP.lt hb,hf b hb⟩) ⟨hG,hT,hL,tQ⟩ ⟨Fg.mono,Ai.mono,CW.mono,tQ⟩)<|Aa 3 [] (λ_=>By rfl rfl (eC mE rfl rfl) (λw f hM=>Se w f hM.vl hM.f0 nms oM hasc) (λx=>⟨ZD.mono,tQ⟩) ?_);rintro⟨sa,sc⟩ -;rw[hfs];refine Aa 5 [] (λ_=>?_);refine GC (α:=Nat×Option Addr×Nat×List Value) (λx=>fs.length-x.1) (λx=>x.1≤fs.length) (λx=>(E5 1 (.slice ka k.len kc) 2 (pB ob) 8 (.slice sa fs.length sc) 9 (iV (fs.length:Int)) 10 (iV (x.1:Int)))) (λx=>⟨Om ob oa,Om ob x.2.1,DN 92 95 ob (.slice x.2.1 (n0+x.1) x.2.2.1) x.2.1 x.2.2.1 (n0+x.1) x.2.2.2,w,f⟩) (λx=>[]) (λx=>[]) (λx=>[]) (λx=>[λw f=>ZD w f fs sa sc,λw f=>Ai w f k ka kc,λw f=>CW w f (l++(fs.take x.1).map (λnm=>(nm,(k.len:Int)-1,Gt k))) x.2.2.2]) (0,oa,oc,oxs) (Nat.zero_le _) lE (λw f hM=>(by have hM9:=hM.more (B':=[]) (F':=[λw f=>CW w f (l++(fs.take 0).map (λnm=>(nm,(k.len:Int)-1,Gt k))) oxs]) nE (AI.mem ⟨by simpa using hM.f3,tQ⟩) (Az.mem ⟨CW.mono,tQ⟩);exact hM9.less sR sR nE (mR [1,3,0]))) ?_;rintro⟨i,oa2,oc2,xs⟩ hi;dsimp only at hi ⊢;refine Aa 6 [] (λ_=>AZ 11 rfl rfl (λh1=>?_) (λh1=>?_));refine Aa 6 [] (λ_=>?_);have hil:i<fs.length:=by have:=of_decide_eq_true h1;omega
 obtain⟨nm,hx⟩:∃v,fs[i]?=some v:=⟨_,List.getElem?_eq_getElem hil⟩;refine LQ (α:=Nat) (λx=>sa=some ⟨x,0,none⟩) (λx=>[⟨x,0+i*1,[S nm]⟩]) (λx=>[]) (λw f hM=>let ⟨_,b,h1,h2⟩:=hM.f0;⟨b,h1,(λe he=>by cases he with|head=>(rw[Nat.mul_one];exact Cs.at h2 (by rw[List.getElem?_map,hx];rfl))|tail _ h=>cases h),λ_ h=>by cases h⟩) (λx=>Az.mem tQ) ?_;rintro sb rfl;refine Aa 6 [100,0] (aI oM<|y2<|λ_=>CU [] Aq (rd [1,2,3,4,5] (.br 0 (.br 6 (.rd 7 (.br 8 (.br 9 (.br 10 .fin .fin) .fin) .fin)) .fin) (.br 6 (.rd 7 (.br 0 (.br 8 (.br 9 (.br 10 .fin .fin) .fin) .fin) (.br 8 (.br 0 (.br 9 (.br 10 .fin .fin) .fin) .fin) .fin))) .fin))) rfl kR<|A6 5 [] (aI ⟨oM,oM⟩<|λ_=>Ag rfl ?_ ?_));refine Fm rfl rfl (λw f hM=>Al rfl Nt hM.res.blk rfl)<|Aa 1 [] (λ_=>Ax [] rfl<|Ag rfl ?_ Aj);refine By rfl rfl (eC PA rfl rfl) (λw f hM=>Ms w f hM.vl k ka kc hk0 oM hkb hM.f1) (λx=>⟨Ai.mono,tQ⟩) ?_;rintro⟨ta,tc⟩ -;refine Aa 1 [] (λ_=>Ax [] rfl<|A6 1 [] (λ_=>Ag rfl ?_ Aj));refine Aa 2 [] (λb1=>λ_=>Ax [] rfl<|Ag rfl ?_ Aj);refine R9 (MI':=Om ob) (I':=λa' c'=>DN 92 95 ob (.slice oa2 (n0+i) oc2) a' c' (n0+i+1) (xs++pC (nm,(k.len:Int)-1,Gt k) ta tc)) 0 rfl rfl ZW rfl rfl rfl rfl rfl rfl rfl oM oM (λw f h=>h.row) (λb h=>.inr h) (λ_ _ h=>Om.or h) (λw f w2 a2 c2 h hM hr hG=>h.app hr hG) (λ_ _=>DN.stab) λa2 c2=>Aa 1 [] (λ_=>Ax [] rfl<|Ag rfl ?_ Aj);exact bZ (b:=ob) (I':=DN 92 95 ob (.slice a2 (n0+i+1) c2) a2 c2 (n0+i+1) (xs++pC (nm,(k.len:Int)-1,Gt k) ta tc)) rfl rfl rfl rfl Nt rfl rfl rfl (.inl rfl) (λw f h=>h.blk) (λw f w2 h hM hC hb=>h.store hC hb) DN.stab<|Aa 1 [] (λ_=>Ax [] rfl<|Bo<|Aa 6 [] (aI ⟨oM,oM⟩<|λ_=>DF ((i+1,a2,c2,xs++pC (nm,(k.len:Int)-1,Gt k) ta tc)) (show fs.length-(i+1)<fs.length-i by omega) (show i+1≤_ by omega) lE (λw f hM=>⟨_,(hM.more (B':=[]) (F':=[λw f=>CW w f (l++(fs.take (i+1)).map (λnm=>(nm,(k.len:Int)-1,Gt k))) (xs++pC (nm,(k.len:Int)-1,Gt k) ta tc)]) nE (AI.mem ⟨by rw[Dt hx,List.map_append,← List.append_assoc];exact CW.snoc (p:=(nm,(k.len:Int)-1,Gt k)) hM.f0 hM.f3,tQ⟩) (Az.mem ⟨CW.mono,tQ⟩)).less (sD sZ) sR nE (mR [2,3,0])⟩)));refine Ag rfl ?_ Aj;refine By rfl rfl (eC PA rfl rfl) (λw f hM=>Ms w f hM.vl k ka kc hk0 oM hkb hM.f1) (λx=>⟨Ai.mono,tQ⟩) ?_;rintro⟨ta,tc⟩ -;refine Aa 1 [] (λ_=>Ax [] rfl<|A6 1 [] (λ_=>Ag rfl ?_ ?_));refine Fm rfl rfl (λw f hM=>Al rfl Nt hM.res.blk rfl)<|Aa 1 [] (λ_=>Ax [] rfl<|Ag rfl ?_ Aj);refine Aa 2 [] (λb2=>λ_=>Ax [] rfl<|Ag rfl ?_ Aj);refine R9 (MI':=Om ob) (I':=λa' c'=>DN 92 95 ob (.slice oa2 (n0+i) oc2) a' c' (n0+i+1) (xs++pC (nm,(k.len:Int)-1,Gt k) ta tc)) 0 rfl rfl ZW rfl rfl rfl rfl rfl rfl rfl oM oM (λw f h=>h.row) (λb h=>.inr h) (λ_ _ h=>Om.or h) (λw f w2 a2 c2 h hM hr hG=>h.app hr hG) (λ_ _=>DN.stab) λa2 c2=>Aa 1 [] (λ_=>Ax [] rfl<|Ag rfl ?_ Aj)
 exact bZ (b:=ob) (I':=DN 92 95 ob (.slice a2 (n0+i+1) c2) a2 c2 (n0+i+1) (xs++pC (nm,(k.len:Int)-1,Gt k) ta tc)) rfl rfl rfl rfl Nt rfl rfl rfl (.inl rfl) (λw f h=>h.blk) (λw f w2 h hM hC hb=>h.store hC hb) DN.stab<|Aa 1 [] (λ_=>Ax [] rfl<|Bo<|Aa 6 [] (aI ⟨oM,oM⟩<|λ_=>DF ((i+1,a2,c2,xs++pC (nm,(k.len:Int)-1,Gt k) ta tc)) (show fs.length-(i+1)<fs.length-i by omega) (show i+1≤_ by omega) lE (λw f hM=>⟨_,(hM.more (B':=[]) (F':=[λw f=>CW w f (l++(fs.take (i+1)).map (λnm=>(nm,(k.len:Int)-1,Gt k))) (xs++pC (nm,(k.len:Int)-1,Gt k) ta tc)]) nE (AI.mem ⟨by rw[Dt hx,List.map_append,← List.append_assoc];exact CW.snoc (p:=(nm,(k.len:Int)-1,Gt k)) hM.f0 hM.f3,tQ⟩) (Az.mem ⟨CW.mono,tQ⟩)).less (sD sZ) sR nE (mR [2,3,0])⟩)));refine Ag rfl ?_ Aj;refine Aa 2 [] (λb3=>λ_=>Ax [] rfl<|Ag rfl ?_ Aj);refine Fm rfl rfl (λw f hM=>Al rfl Nt hM.res.blk rfl)<|Aa 1 [] (λ_=>Ax [] rfl<|Ag rfl ?_ Aj);refine R9 (MI':=Om ob) (I':=λa' c'=>DN 92 95 ob (.slice oa2 (n0+i) oc2) a' c' (n0+i+1) (xs++pC (nm,(k.len:Int)-1,Gt k) ta tc)) 0 rfl rfl ZW rfl rfl rfl rfl rfl rfl rfl oM oM (λw f h=>h.row) (λb h=>.inr h) (λ_ _ h=>Om.or h) (λw f w2 a2 c2 h hM hr hG=>h.app hr hG) (λ_ _=>DN.stab) λa2 c2=>Aa 1 [] (λ_=>Ax [] rfl<|Ag rfl ?_ Aj);exact bZ (b:=ob) (I':=DN 92 95 ob (.slice a2 (n0+i+1) c2) a2 c2 (n0+i+1) (xs++pC (nm,(k.len:Int)-1,Gt k) ta tc)) rfl rfl rfl rfl Nt rfl rfl rfl (.inl rfl) (λw f h=>h.blk) (λw f w2 h hM hC hb=>h.store hC hb) DN.stab<|Aa 1 [] (λ_=>Ax [] rfl<|Bo<|Aa 6 [] (aI ⟨oM,oM⟩<|λ_=>DF ((i+1,a2,c2,xs++pC (nm,(k.len:Int)-1,Gt k) ta tc)) (show fs.length-(i+1)<fs.length-i by omega) (show i+1≤_ by omega) lE (λw f hM=>⟨_,(hM.more (B':=[]) (F':=[λw f=>CW w f (l++(fs.take (i+1)).map (λnm=>(nm,(k.len:Int)-1,Gt k))) (xs++pC (nm,(k.len:Int)-1,Gt k) ta tc)]) nE (AI.mem ⟨by rw[Dt hx,List.map_append,← List.append_assoc];exact CW.snoc (p:=(nm,(k.len:Int)-1,Gt k)) hM.f0 hM.f3,tQ⟩) (Az.mem ⟨CW.mono,tQ⟩)).less (sD sZ) sR nE (mR [2,3,0])⟩)));refine Aa 3 [] (λ_=>Gp<|Aa 1 [] (λ_=>?_));obtain rfl:i=fs.length:=by have:=of_decide_eq_false h1;omega
 exact eU (λw f hM=>DE rfl) (λw f hM=>⟨(oa2,oc2,xs),f,rfl,tQ,hM.exm,(λb hb=>let ⟨h1,h2,h3⟩:=hM.mi b hb;h3.elim (λh=>.inr ⟨h,h1,h2⟩) .inl),hM.res,⟨by have h9:=hM.f2;rw[List.take_length] at h9;exact h9,tQ⟩⟩)
def QK:List Value:=[S [70,97,108,115,101],S [98,111,111,108],iV 0,iV 0,S [84,114,117,101],S [98,111,111,108],iV 1,iV 0,S [68,105,118],S [101,120,110],iV 0,iV 0,S [77,97,116,99,104],S [101,120,110],iV 1,iV 0,S [65,98,111,114,116],S [101,120,110],iV 2,iV 0,S [75,101,101,112],S [101,120,110],iV 3,iV 0,S [79,117,116],S [101,120,110],iV 4,iV 0,S [70,97,105,108],S [101,120,110],iV 5,iV 1]
theorem U4(w:World)(f:Fq)(hv:Vl w f)  :
  B3 prog 42 #[.slice none 0 0] w (BO (α:=Nat) (λb=>.slice (some ⟨b,0,none⟩) 8 8) (λ_=>True) (λb=>[λw f=>Cs w f b 0 QK]) w f):=by
 refine CV (X:=X0 w f) (H:=[]) (R:=[]) (B:=[]) (Fs:=[]) (f:=f) func42 rfl rfl rfl (Cz hv tQ tQ)<|Aa 28 [] (λb1=>λ_=>?_);refine GC (α:=Unit) (λx=>0) (λx=>True) (λx=>(E3 3 (.slice (some ⟨b1,0,none⟩) 8 8) 19 (iV ((0:Nat):Int)) 20 (iV 0))) (λx=>X0 w f) (λx=>[⟨b1,QK,88,true⟩]) (λx=>[]) (λx=>[]) (λx=>[]) (()) tQ lE (λw f hM=>hM) ?_;rintro⟨⟩ -;exact Aa 9 [] (λ_=>Gp<|Aa 9 [] (λ_=>CY 0 rfl rfl<|AV (Dx rfl rfl) (λw f hM=>⟨b1,f,rfl,tQ,hM.exm,⟨hM.b0,tQ⟩⟩)))
abbrev wO:=Nat×Nat×Nat×Nat×(Option Addr×Nat)×(Option Addr×Nat)
abbrev Q3:=T1×Option Addr×Nat
abbrev qI:Q3:=(c0 bI,none,0)
abbrev qF:Q3:=(c0 bF,none,0)
abbrev qS:Q3:=(c0 bS,none,0)
abbrev qB:Q3:=(c0 bB,none,0)
abbrev qU:Q3:=(c0 bU,none,0)
abbrev qV:Q3:=(.var 1,none,0)
abbrev qR(a:Option Addr)(c:Nat):Q3:=(T1.con L8 (T1.var 1).one,a,c)
abbrev qP(a:Option Addr)(c:Nat):Q3:=(T1.con CA (T1.var 1).one,a,c)
def pm(x:lU)(l:List Q3):SE:=(x,((Tk l).len:Int)-1,Gt (Tk l))
theorem kI:(c0 bI).bnd:=CT dC
theorem kF:(c0 bF).bnd:=CT dC
theorem kS:(c0 bS).bnd:=CT dC
theorem kB:(c0 bB).bnd:=CT dC
theorem kU:(c0 bU).bnd:=CT dC
theorem kV:(T1.var 1).bnd:=Bu _
variable {Q:AY}{σ:Bj}{f:Fq}{ds:List Deferred}{B:List FB}{fs:List Fr}{H H':List HB}{xs:List Value}{b d n n0 ob oc:Nat}{M:Nat→Prop}{g:Option (Nat×Bool)}{oa:Option Addr}{T:TypeId}{w w0:World}
theorem qN:Ai w f .nil none 0:=Ai.nil _ _ _ _
def UM:List Nat→Nat→Bool
 | [],_=>false
 |a::l,b=>bif Nat.beq a b then true else UM l b
def sU(c:Bool)(d:Nat)(v:Value)(σ:Bj):Bj:=bif c then AF σ d v else σ
def sL{α:Type}(c:Bool)(e:α)(l:List α):List α:=bif c then e::l else l
def Lj(b1 b2 b3 b4 b5 b6:Nat)(S:List Nat)(x:wO):Bj :=
 sU (UM S 7) 8 (pB x.2.2.2.1)<|sU (UM S 6) 7 (pB x.2.2.1)<|sU (UM S 5) 22 (tV (T1.con CA (T1.var 1).one) x.2.2.2.2.2.1 x.2.2.2.2.2.2)<|sU (UM S 2) 19 (tV (T1.con L8 (T1.var 1).one) x.2.2.2.2.1.1 x.2.2.2.2.1.2) <|
 sU (UM S 4) 21 (.slice (some ⟨x.2.1,0,none⟩) 1 1)<|sU (UM S 1) 18 (.slice (some ⟨x.1,0,none⟩) 1 1)<|E8 1 (pB b1) 2 (pB b2) 3 (pB b3) 4 (pB b4) 5 (pB b5) 6 (pB b6) 17 (tV (.var 1) none 0) 20 (tV (.var 1) none 0)
def DG(b1 b2 b3 b4 b5 b6:Nat)(S:List Nat)(x:wO):List HB :=
 sL (UM S 7) ⟨x.2.2.2.1,zT,55,true⟩<|sL (UM S 6) ⟨x.2.2.1,zT,55,true⟩<|sL (UM S 4&&!UM S 5) ⟨x.2.1,tC (.var 1) none 0,55,true⟩<|sL (UM S 1&&!UM S 2) ⟨x.1,tC (.var 1) none 0,55,true⟩ [⟨b6,tC (.var 1) none 0,55,true⟩,⟨b5,tC (c0 bU) none 0,55,true⟩,⟨b4,tC (c0 bB) none 0,55,true⟩,⟨b3,tC (c0 bS) none 0,55,true⟩,⟨b2,tC (c0 bF) none 0,55,true⟩,⟨b1,tC (c0 bI) none 0,55,true⟩]
def f16(S:List Nat)(x:wO):List (World→Fq→Prop) :=
 sL (UM S 5) (λw f=>Ai w f (T1.var 1).one x.2.2.2.2.2.1 x.2.2.2.2.2.2)<|sL (UM S 2) (λw f=>Ai w f (T1.var 1).one x.2.2.2.2.1.1 x.2.2.2.2.1.2) [λw f=>Fg w f]
def Ck:List SE:=[pm [43] [qI,qI,qI],pm [45] [qI,qI,qI],pm [42] [qI,qI,qI],pm [100,105,118] [qI,qI,qI],pm [109,111,100] [qI,qI,qI],pm [110,101,103] [qI,qI],pm [60] [qI,qI,qB],pm [60,61] [qI,qI,qB],pm [61] [qI,qI,qB],pm [102,43] [qF,qF,qF],pm [102,45] [qF,qF,qF],pm [102,42] [qF,qF,qF],pm [102,47] [qF,qF,qF],pm [102,115,113,114,116] [qF,qF],pm [102,110,101,103] [qF,qF],pm [102,60] [qF,qF,qB],pm [102,61] [qF,qF,qB],pm [102,97,104,101,97,100] [qF,qF,qB],pm [105,116,111,102] [qI,qF],pm [102,116,111,105] [qF,qI],pm [102,98,105,116,115] [qF,qS],pm [110,97,110] [qF],pm [105,110,102] [qF],pm [99,97,116] [qS,qS,qS],pm [108,101,110] [qS,qI],pm [111,114,100] [qS,qI],pm [97,116,111,105] [qS,qI],pm [115,117,98] [qS,qI,qI,qS],pm [115,61] [qS,qS,qB],pm [115,60] [qS,qS,qB],pm [105,116,111,97] [qI,qS],pm [99,104,114] [qI,qS],pm [112,114,105,110,116] [qS,qU],pm [114,101,97,100] [qU,qS],pm [114,101,102] [qV,(qR none 0)],pm [103,101,116] [(qR none 0),qV],pm [115,101,116] [(qR none 0),qV,qU],pm [110,101,119] [qV,(qP none 0)],pm [108,111,97,100] [(qP none 0),qV],pm [115,116,111,114,101] [(qP none 0),qV,qU]]
def Yv:List (T1×Option Addr×Nat)→Prop
 | []=>True
 |t::l=>t.1.bnd∧Yv l
theorem QO:∀{l:List (T1×Option Addr×Nat)},Yv l→(Tk l).bnd
 | [],_=>trivial
 |_::_,h=>T1.bnd_cons.2 ⟨h.1,QO h.2⟩
theorem GD{f0:Fq}{F0:List (World→Fq→Prop)}{all r:List Oper}{gg:Operand}{args:List Operand}{ts:Array TypeId}{ty:TypeId}{pos:String}{af:Array Edge}{NM:lU}(kb n1:Nat)(lst:List Q3)
  (hgv:ev σ gg=some (.func (.func 66) #[] [Value.pointer (some ⟨ob,0,none⟩)].toArray)) (hga:Iz σ args=some [S NM,.slice (some ⟨b,0,none⟩) lst.length lst.length]) (hg:gd all σ g=some true) (hd:Nat.blt d n=true) (hk:H3 H kb=some ⟨b,pS lst,T,true⟩) (hs:K9 H kb=some H')
  (hG:∀w f H B,AO ⟨M,Om ob oa,DN 92 95 ob (.slice oa n0 oc) oa oc n0 xs,w0,f0⟩ w f H [] B ((λw f=>CW w f (Ck.take n0) xs)::F0)→Fg w f∧vP w f lst) (hbd:Yv lst)
  (h:∀a c xs,A5 prog n Q ds ⟨M,Om ob a,DN 92 95 ob (.slice a n1 c) a c n1 xs,w0,f0⟩ [] B ((λw f=>CW w f (Ck.take n1) xs)::F0) (.ops all r) fs (AF σ d (.tuple #[])) H')
  (hp:Ck.take n0++(Lib.fields NM).map (λnm=>(nm,((Tk lst).len:Int)-1,Gt (Tk lst)))=Ck.take n1:=by kernel_rfl) (hn:n0+(Lib.fields NM).length=n1:=by kernel_rfl)
  (hc:(Nat.ble n0 1000&&(Nat.ble NM.length 1000&&(NM.all (λc=>decide (c.toNat<128))&&(Nat.ble (Lib.fields NM).length 1000&&(Nat.blt 0 lst.length&&Nat.ble lst.length 1000)))))=true:=by kernel_rfl) :
  A5 prog n Q ds ⟨M,Om ob oa,DN 92 95 ob (.slice oa n0 oc) oa oc n0 xs,w0,f0⟩ [] B ((λw f=>CW w f (Ck.take n0) xs)::F0) (.ops all (⟨some d,.call {callee:=.value gg,args:=args.toArray,argTypes:=ts},ty,pos,af,g⟩::r)) fs σ H:=by
 simp only[Bool.and_eq_true] at hc;obtain⟨h1,h2,h3,h4,h5,h6⟩:=hc;have e:=PK lst;have h5':0<(Tk lst).len:=by rw[e];exact Nat.le_of_ble_eq_true h5
 have h6':(Tk lst).len≤1000:=by rw[e];exact Nat.le_of_ble_eq_true h6
 subst hn;have he':∀w,SW.Enters prog σ (.call {callee:=.value gg,args:=args.toArray,argTypes:=ts}) ty w 66 #[S NM,.slice (some ⟨b,0,none⟩) (Tk lst).len lst.length,pB ob]:=by rw[e];exact λ_=>UG kW hgv hga
 refine CY kb hk hs<|D9 (λw f=>Ai w f (Tk lst) (some ⟨b,0,none⟩) lst.length) (λw f hM=>Da (hG w f _ _ hM).2 hM.b0) Ai.mono<|cY (XX:=λ_ _=>False) hg hd he' (λw f hM=>(Zt w f hM.vl (hG w f _ _ (hM.less sR sR (λ_ h=>h) (λ_ h=>.tail _ h))).1 ob oa oc n0 xs (Ck.take n0) hM.res hM.f1 hM.mz (Nat.le_of_ble_eq_true h1) NM (Lib.fields NM) rfl (Nat.le_of_ble_eq_true h2) h3 (Nat.le_of_ble_eq_true h4) (Tk lst) (some ⟨b,0,none⟩) lst.length h5' h6' (QO hbd) hM.f0).retP) (λ_=>DN.stab) (λ_=>⟨CW.mono,tQ⟩) (λ_ _ _ _ _ h=>h.elim) ?_;rintro⟨a,c,xs'⟩ -;refine λw f hM=>h a c xs' w f ?_;rw[← hp];refine hM.less sR sR (λe he=>.tail _ he) (λφ hφ=>?_);rcases List.mem_cons.1 hφ with rfl|hφ
 · exact .head _
 · exact .tail _ (.tail _ (.tail _ hφ))
def Rh:OT:=.br 9 .fin .fin
def Ia:OT:=.br 8 Rh .fin
def HH:OT:=.br 5 Ia .fin
def IT:OT:=.br 2 HH .fin
def Mj:OT:=.br 1 IT .fin
def KB:OT:=.br 4 HH .fin
def Mo:OT:=.br 2 KB (.br 4 IT .fin)
def UK:OT:=.br 1 Mo (.br 4 Mj .fin)
def Lx:OT:=.br 6 Ia .fin
def KE:OT:=.br 5 Lx (.br 6 HH .fin)
def Ml:OT:=.br 2 KE (.br 6 IT .fin)
def Uv:OT:=.br 1 Ml (.br 6 Mj .fin)
def Q1:OT:=.br 4 KE (.br 6 KB .fin)
def Tq:OT:=.br 2 Q1 (.br 4 Ml (.br 6 Mo .fin))
def gY:OT:=.br 1 Tq (.br 4 Uv (.br 6 UK .fin))
def Lu:OT:=.br 7 Ia .fin
def K0:OT:=.br 5 Lu (.br 7 HH .fin)
def Mi:OT:=.br 2 K0 (.br 7 IT .fin)
def Uq:OT:=.br 1 Mi (.br 7 Mj .fin)
def Q0:OT:=.br 4 K0 (.br 7 KB .fin)
def Vb:OT:=.br 2 Q0 (.br 4 Mi (.br 7 Mo .fin))
def jE:OT:=.br 1 Vb (.br 4 Uq (.br 7 UK .fin))
def SC:OT:=.br 6 Lu (.br 7 Lx .fin)
def Q7:OT:=.br 5 SC (.br 6 K0 (.br 7 KE .fin))
def To:OT:=.br 2 Q7 (.br 6 Mi (.br 7 Ml .fin))
def iK:OT:=.br 1 To (.br 6 Uq (.br 7 Uv .fin))
def Zi:OT:=.br 4 Q7 (.br 6 Q0 (.br 7 Q1 .fin))
def iJ:OT:=.br 2 Zi (.br 4 To (.br 6 Vb (.br 7 Tq .fin)))
def qQ:OT:=.br 1 iJ (.br 4 iK (.br 6 jE (.br 7 gY .fin)))
set_option maxHeartbeats 2000000 in
theorem Tv(w:World)(f:Fq)(hv:Vl w f)(hG:Fg w f) :
  B3 prog 43 #[] w (BO (α:=Option Addr×Nat) (λx=>.slice x.1 Ck.length x.2) (λ_=>True) (λx=>[λw f=>Um w f Ck x.1 x.2]) w f):=by
 refine CV (X:=X0 w f) (H:=[]) (R:=[]) (B:=[]) (Fs:=[λw f=>Fg w f]) (f:=f) func43 rfl rfl rfl (Cz hv ⟨hG,tQ⟩ ⟨Fg.mono,tQ⟩)<|Aa 7 [] (λ_=>By rfl rfl (eC Br rfl rfl) (λw f hM=>Bl w f hM.vl [105,110,116]) (λx=>trivial) ?_);rintro⟨⟩ -;refine By rfl rfl (eC Br rfl rfl) (λw f hM=>Bl w f hM.vl [102,108,111,97,116]) (λx=>trivial) ?_;rintro⟨⟩ -;refine By rfl rfl (eC Br rfl rfl) (λw f hM=>Bl w f hM.vl [115,116,114,105,110,103]) (λx=>trivial) ?_;rintro⟨⟩ -;refine By rfl rfl (eC Br rfl rfl) (λw f hM=>Bl w f hM.vl [98,111,111,108]) (λx=>trivial) ?_;rintro⟨⟩ -;refine By rfl rfl (eC Br rfl rfl) (λw f hM=>Bl w f hM.vl [117,110,105,116]) (λx=>trivial) ?_;rintro⟨⟩ -;refine Aa 14 [4,3,2,1,0] (λb1=>λb2=>λb3=>λb4=>λb5=>y<|y<|y<|y<|y<|λ_=>By rfl rfl (eC Hb rfl rfl) (λw f hM=>DQ w f hM.vl 1) (λx=>trivial) ?_);rintro⟨⟩ -;refine Aa 5 [0] (λb6=>y<|λ_=>?_);refine X6 (α:=Nat×Nat×(Option Addr×Nat)×(Option Addr×Nat)) (λx=>True) (λx=>(E8 1 (pB b1) 2 (pB b2) 3 (pB b3) 4 (pB b4) 5 (pB b5) 6 (pB b6) 7 (pB x.1) 8 (pB x.2.1))) (λx=>X0 w f) (λx=>[⟨x.2.1,tC (T1.con CA (T1.var 1).one) x.2.2.2.1 x.2.2.2.2,55,true⟩,⟨x.1,tC (T1.con L8 (T1.var 1).one) x.2.2.1.1 x.2.2.1.2,55,true⟩,⟨b6,tC (.var 1) none 0,55,true⟩,⟨b5,tC (c0 bU) none 0,55,true⟩,⟨b4,tC (c0 bB) none 0,55,true⟩,⟨b3,tC (c0 bS) none 0,55,true⟩,⟨b2,tC (c0 bF) none 0,55,true⟩,⟨b1,tC (c0 bI) none 0,55,true⟩]) (λx=>[]) (λx=>[]) (λx=>[λw f=>Ai w f (T1.var 1).one x.2.2.2.1 x.2.2.2.2,λw f=>Ai w f (T1.var 1).one x.2.2.1.1 x.2.2.1.2,λw f=>Fg w f]) ?_ ?_;refine CU [0,1,2,3,4,5] Aq (.rd 0 (.rd 3 qQ)) rfl kR<|A6 2 [0,0] (y<|y<|λ_=>Lh Ia (Lj b1 b2 b3 b4 b5 b6 [1,2,4,5,6,7]) (DG b1 b2 b3 b4 b5 b6 [1,2,4,5,6,7]) (λ_=>[]) (f16 [1,2,4,5,6,7]) ?_ (λhS124567=>?_))
 ·
  rintro⟨b18,b21,b7,b8,⟨ra,rc⟩,⟨pa,pc⟩⟩;refine Ag rfl ?_ Aj;refine Aa 2 [1] (y<|λ_=>Ax [2,3,4,5,6,7] rfl<|Ag rfl ?_ Aj);exact Aa 2 [0] (y<|λ_=>Ax [2,3,4,5,6,7] rfl<|Bo<|Lk (b7,b8,(ra,rc),(pa,pc)) tQ lE (λw f hM=>⟨f,hM⟩))
 refine Lh Lx (Lj b1 b2 b3 b4 b5 b6 [1,2,4,5,7]) (DG b1 b2 b3 b4 b5 b6 [1,2,4,5,7]) (λ_=>[]) (f16 [1,2,4,5,7]) ?_ (λhS12457=>?_)
 ·
  rintro⟨b18,b21,b7,b8,⟨ra,rc⟩,⟨pa,pc⟩⟩;refine Ag rfl ?_ Aj;exact Aa 2 [] (λq=>λ_=>Ax [2,3,4,5,6,7] rfl<|EN hS124567 (b18,b21,q,b8,(ra,rc),(pa,pc)) lE (λw f hM=>hM.perm (List.perm_middle (l₁:=[_]))))
 refine Lh Lu (Lj b1 b2 b3 b4 b5 b6 [1,2,4,5,6]) (DG b1 b2 b3 b4 b5 b6 [1,2,4,5,6]) (λ_=>[]) (f16 [1,2,4,5,6]) ?_ (λhS12456=>?_)
 ·
  rintro⟨b18,b21,b7,b8,⟨ra,rc⟩,⟨pa,pc⟩⟩;refine Ag rfl ?_ Aj;exact Aa 2 [] (λq=>λ_=>Ax [2,3,4,5,6,7] rfl<|EN hS124567 (b18,b21,b7,q,(ra,rc),(pa,pc)) lE (λw f hM=>hM))
 refine Lh HH (Lj b1 b2 b3 b4 b5 b6 [1,2,4,6,7]) (DG b1 b2 b3 b4 b5 b6 [1,2,4,6,7]) (λ_=>[]) (f16 [1,2,4,6,7]) ?_ (λhS12467=>?_)
 ·
  rintro⟨b18,b21,b7,b8,⟨ra,rc⟩,⟨pa,pc⟩⟩;refine Ag rfl ?_ Aj;refine CY 2 rfl rfl<|D9 (λw f=>Ai w f (T1.var 1).one (some ⟨b21,0,none⟩) 1) (λw f hM=>Da (l:=[(.var 1,none,0)]) ⟨Ai.nil _ _ _ _,tQ⟩ hM.b0) Ai.mono<|By rfl rfl (eC Br rfl rfl) (λw f hM=>CN w f hM.vl CA (T1.var 1).one (some ⟨b21,0,none⟩) 1 dC hM.f0) (λ_=>⟨Ai.mono,tQ⟩) ?_;rintro⟨qa,qc⟩ -;exact Aa 1 [] (λ_=>Be [2,3,4,5,6,7] ER rfl (λ_ h=>.tail _ h)<|EN hS124567 (b18,b21,b7,b8,(ra,rc),(qa,qc)) lE (λw f hM=>hM.less sR sR nE (mR [0,2,3])))
 refine Lh KE (Lj b1 b2 b3 b4 b5 b6 [1,2,4,7]) (DG b1 b2 b3 b4 b5 b6 [1,2,4,7]) (λ_=>[]) (f16 [1,2,4,7]) ?_ (λhS1247=>?_)
 ·
  rintro⟨b18,b21,b7,b8,⟨ra,rc⟩,⟨pa,pc⟩⟩;refine Ag rfl ?_ ?_;refine CY 1 rfl rfl<|D9 (λw f=>Ai w f (T1.var 1).one (some ⟨b21,0,none⟩) 1) (λw f hM=>Da (l:=[(.var 1,none,0)]) ⟨Ai.nil _ _ _ _,tQ⟩ hM.b0) Ai.mono<|By rfl rfl (eC Br rfl rfl) (λw f hM=>CN w f hM.vl CA (T1.var 1).one (some ⟨b21,0,none⟩) 1 dC hM.f0) (λ_=>⟨Ai.mono,tQ⟩) ?_;rintro⟨qa,qc⟩ -;exact Aa 1 [] (λ_=>Be [1,2,3,4,5,6] ER rfl (λ_ h=>.tail _ h)<|EN hS12457 (b18,b21,b7,b8,(ra,rc),(qa,qc)) lE (λw f hM=>hM.less sR sR nE (mR [0,2,3])));refine Ag rfl ?_ Aj;exact Aa 2 [] (λq=>λ_=>Ax [3,4,5,6,7,8] rfl<|EN hS12467 (b18,b21,q,b8,(ra,rc),(pa,pc)) lE (λw f hM=>hM.perm (List.perm_middle (l₁:=[_]))))
 refine Lh KB (Lj b1 b2 b3 b4 b5 b6 [1,2,6,7]) (DG b1 b2 b3 b4 b5 b6 [1,2,6,7]) (λ_=>[]) (f16 [1,2,6,7]) ?_ (λhS1267=>?_)
 ·
  rintro⟨b18,b21,b7,b8,⟨ra,rc⟩,⟨pa,pc⟩⟩;refine Ag rfl ?_ Aj;exact Aa 2 [] (λq=>λ_=>Ax [3,4,5,6,7,8] rfl<|EN hS12467 (b18,q,b7,b8,(ra,rc),(pa,pc)) lE (λw f hM=>hM.perm (List.perm_middle (l₁:=[_,_]))))
 refine Lh K0 (Lj b1 b2 b3 b4 b5 b6 [1,2,4,6]) (DG b1 b2 b3 b4 b5 b6 [1,2,4,6]) (λ_=>[]) (f16 [1,2,4,6]) ?_ (λhS1246=>?_)
 ·
  rintro⟨b18,b21,b7,b8,⟨ra,rc⟩,⟨pa,pc⟩⟩;refine Ag rfl ?_ ?_;refine CY 1 rfl rfl<|D9 (λw f=>Ai w f (T1.var 1).one (some ⟨b21,0,none⟩) 1) (λw f hM=>Da (l:=[(.var 1,none,0)]) ⟨Ai.nil _ _ _ _,tQ⟩ hM.b0) Ai.mono<|By rfl rfl (eC Br rfl rfl) (λw f hM=>CN w f hM.vl CA (T1.var 1).one (some ⟨b21,0,none⟩) 1 dC hM.f0) (λ_=>⟨Ai.mono,tQ⟩) ?_;rintro⟨qa,qc⟩ -;exact Aa 1 [] (λ_=>Be [1,2,3,4,5,6] ER rfl (λ_ h=>.tail _ h)<|EN hS12456 (b18,b21,b7,b8,(ra,rc),(qa,qc)) lE (λw f hM=>hM.less sR sR nE (mR [0,2,3])));refine Ag rfl ?_ Aj;exact Aa 2 [] (λq=>λ_=>Ax [3,4,5,6,7,8] rfl<|EN hS12467 (b18,b21,b7,q,(ra,rc),(pa,pc)) lE (λw f hM=>hM))
 refine Lh SC (Lj b1 b2 b3 b4 b5 b6 [1,2,4,5]) (DG b1 b2 b3 b4 b5 b6 [1,2,4,5]) (λ_=>[]) (f16 [1,2,4,5]) ?_ (λhS1245=>?_)
 ·
  rintro⟨b18,b21,b7,b8,⟨ra,rc⟩,⟨pa,pc⟩⟩;refine Ag rfl ?_ ?_;exact Aa 2 [] (λq=>λ_=>Ax [1,2,3,4,5,6] rfl<|EN hS12456 (b18,b21,q,b8,(ra,rc),(pa,pc)) lE (λw f hM=>hM));refine Ag rfl ?_ Aj;exact Aa 2 [] (λq=>λ_=>Ax [1,2,3,4,5,6] rfl<|EN hS12457 (b18,b21,b7,q,(ra,rc),(pa,pc)) lE (λw f hM=>hM))
 refine Lh IT (Lj b1 b2 b3 b4 b5 b6 [1,4,6,7]) (DG b1 b2 b3 b4 b5 b6 [1,4,6,7]) (λ_=>[]) (f16 [1,4,6,7]) ?_ (λhS1467=>?_)
 ·
  rintro⟨b18,b21,b7,b8,⟨ra,rc⟩,⟨pa,pc⟩⟩;refine Ag rfl ?_ Aj;refine CY 3 rfl rfl<|D9 (λw f=>Ai w f (T1.var 1).one (some ⟨b18,0,none⟩) 1) (λw f hM=>Da (l:=[(.var 1,none,0)]) ⟨Ai.nil _ _ _ _,tQ⟩ hM.b0) Ai.mono<|By rfl rfl (eC Br rfl rfl) (λw f hM=>CN w f hM.vl L8 (T1.var 1).one (some ⟨b18,0,none⟩) 1 dC hM.f0) (λ_=>⟨Ai.mono,tQ⟩) ?_;rintro⟨qa,qc⟩ -;exact Aa 1 [] (λ_=>Be [3,4,5,6,7,8] ER rfl (λ_ h=>.tail _ h)<|EN hS12467 (b18,b21,b7,b8,(qa,qc),(pa,pc)) lE (λw f hM=>hM.less sR sR nE (mR [0,2])))
 refine Lh Mi (Lj b1 b2 b3 b4 b5 b6 [1,4,6]) (DG b1 b2 b3 b4 b5 b6 [1,4,6]) (λ_=>[]) (f16 [1,4,6]) ?_ (λhS146=>?_)
 ·
  rintro⟨b18,b21,b7,b8,⟨ra,rc⟩,⟨pa,pc⟩⟩;refine Ag rfl ?_ ?_;refine CY 2 rfl rfl<|D9 (λw f=>Ai w f (T1.var 1).one (some ⟨b18,0,none⟩) 1) (λw f hM=>Da (l:=[(.var 1,none,0)]) ⟨Ai.nil _ _ _ _,tQ⟩ hM.b0) Ai.mono<|By rfl rfl (eC Br rfl rfl) (λw f hM=>CN w f hM.vl L8 (T1.var 1).one (some ⟨b18,0,none⟩) 1 dC hM.f0) (λ_=>⟨Ai.mono,tQ⟩) ?_;rintro⟨qa,qc⟩ -;exact Aa 1 [] (λ_=>Be [2,3,4,5,6,7] ER rfl (λ_ h=>.tail _ h)<|EN hS1246 (b18,b21,b7,b8,(qa,qc),(pa,pc)) lE (λw f hM=>hM.less sR sR nE (mR [0,2])));refine Ag rfl ?_ Aj;exact Aa 2 [] (λq=>λ_=>Ax [4,5,6,7,8,9] rfl<|EN hS1467 (b18,b21,b7,q,(ra,rc),(pa,pc)) lE (λw f hM=>hM))
 refine Lh Ml (Lj b1 b2 b3 b4 b5 b6 [1,4,7]) (DG b1 b2 b3 b4 b5 b6 [1,4,7]) (λ_=>[]) (f16 [1,4,7]) ?_ (λhS147=>?_)
 ·
  rintro⟨b18,b21,b7,b8,⟨ra,rc⟩,⟨pa,pc⟩⟩;refine Ag rfl ?_ ?_;refine CY 2 rfl rfl<|D9 (λw f=>Ai w f (T1.var 1).one (some ⟨b18,0,none⟩) 1) (λw f hM=>Da (l:=[(.var 1,none,0)]) ⟨Ai.nil _ _ _ _,tQ⟩ hM.b0) Ai.mono<|By rfl rfl (eC Br rfl rfl) (λw f hM=>CN w f hM.vl L8 (T1.var 1).one (some ⟨b18,0,none⟩) 1 dC hM.f0) (λ_=>⟨Ai.mono,tQ⟩) ?_;rintro⟨qa,qc⟩ -;exact Aa 1 [] (λ_=>Be [2,3,4,5,6,7] ER rfl (λ_ h=>.tail _ h)<|EN hS1247 (b18,b21,b7,b8,(qa,qc),(pa,pc)) lE (λw f hM=>hM.less sR sR nE (mR [0,2])));refine Ag rfl ?_ Aj;exact Aa 2 [] (λq=>λ_=>Ax [4,5,6,7,8,9] rfl<|EN hS1467 (b18,b21,q,b8,(ra,rc),(pa,pc)) lE (λw f hM=>hM.perm (List.perm_middle (l₁:=[_]))))
 refine Lh Q1 (Lj b1 b2 b3 b4 b5 b6 [1,2,7]) (DG b1 b2 b3 b4 b5 b6 [1,2,7]) (λ_=>[]) (f16 [1,2,7]) ?_ (λhS127=>?_)
 ·
  rintro⟨b18,b21,b7,b8,⟨ra,rc⟩,⟨pa,pc⟩⟩;refine Ag rfl ?_ ?_;exact Aa 2 [] (λq=>λ_=>Ax [2,3,4,5,6,7] rfl<|EN hS1247 (b18,q,b7,b8,(ra,rc),(pa,pc)) lE (λw f hM=>hM.perm (List.perm_middle (l₁:=[_]))));refine Ag rfl ?_ Aj;exact Aa 2 [] (λq=>λ_=>Ax [2,3,4,5,6,7] rfl<|EN hS1267 (b18,b21,q,b8,(ra,rc),(pa,pc)) lE (λw f hM=>hM.perm (List.perm_middle (l₁:=[_]))))
 refine Lh Mo (Lj b1 b2 b3 b4 b5 b6 [1,6,7]) (DG b1 b2 b3 b4 b5 b6 [1,6,7]) (λ_=>[]) (f16 [1,6,7]) ?_ (λhS167=>?_)
 ·
  rintro⟨b18,b21,b7,b8,⟨ra,rc⟩,⟨pa,pc⟩⟩;refine Ag rfl ?_ ?_;refine CY 2 rfl rfl<|D9 (λw f=>Ai w f (T1.var 1).one (some ⟨b18,0,none⟩) 1) (λw f hM=>Da (l:=[(.var 1,none,0)]) ⟨Ai.nil _ _ _ _,tQ⟩ hM.b0) Ai.mono<|By rfl rfl (eC Br rfl rfl) (λw f hM=>CN w f hM.vl L8 (T1.var 1).one (some ⟨b18,0,none⟩) 1 dC hM.f0) (λ_=>⟨Ai.mono,tQ⟩) ?_;rintro⟨qa,qc⟩ -;exact Aa 1 [] (λ_=>Be [2,3,4,5,6,7] ER rfl (λ_ h=>.tail _ h)<|EN hS1267 (b18,b21,b7,b8,(qa,qc),(pa,pc)) lE (λw f hM=>hM.less sR sR nE (mR [0,2])));refine Ag rfl ?_ Aj;exact Aa 2 [] (λq=>λ_=>Ax [4,5,6,7,8,9] rfl<|EN hS1467 (b18,q,b7,b8,(ra,rc),(pa,pc)) lE (λw f hM=>hM.perm (List.perm_middle (l₁:=[_,_]))))
 refine Lh Q0 (Lj b1 b2 b3 b4 b5 b6 [1,2,6]) (DG b1 b2 b3 b4 b5 b6 [1,2,6]) (λ_=>[]) (f16 [1,2,6]) ?_ (λhS126=>?_)
 ·
  rintro⟨b18,b21,b7,b8,⟨ra,rc⟩,⟨pa,pc⟩⟩;refine Ag rfl ?_ ?_;exact Aa 2 [] (λq=>λ_=>Ax [2,3,4,5,6,7] rfl<|EN hS1246 (b18,q,b7,b8,(ra,rc),(pa,pc)) lE (λw f hM=>hM.perm (List.perm_middle (l₁:=[_]))));refine Ag rfl ?_ Aj;exact Aa 2 [] (λq=>λ_=>Ax [2,3,4,5,6,7] rfl<|EN hS1267 (b18,b21,b7,q,(ra,rc),(pa,pc)) lE (λw f hM=>hM))
 refine Lh Mj (Lj b1 b2 b3 b4 b5 b6 [4,6,7]) (DG b1 b2 b3 b4 b5 b6 [4,6,7]) (λ_=>[]) (f16 [4,6,7]) ?_ (λhS467=>?_)
 ·
  rintro⟨b18,b21,b7,b8,⟨ra,rc⟩,⟨pa,pc⟩⟩;refine Ag rfl ?_ Aj;exact Aa 2 [] (λq=>λ_=>Ax [4,5,6,7,8,9] rfl<|EN hS1467 (q,b21,b7,b8,(ra,rc),(pa,pc)) lE (λw f hM=>hM.perm (List.perm_middle (l₁:=[_,_,_]))))
 refine Lh Q7 (Lj b1 b2 b3 b4 b5 b6 [1,2,4]) (DG b1 b2 b3 b4 b5 b6 [1,2,4]) (λ_=>[]) (f16 [1,2,4]) ?_ (λhS124=>?_)
 ·
  rintro⟨b18,b21,b7,b8,⟨ra,rc⟩,⟨pa,pc⟩⟩;refine Ag rfl ?_ ?_;refine CY 0 rfl rfl<|D9 (λw f=>Ai w f (T1.var 1).one (some ⟨b21,0,none⟩) 1) (λw f hM=>Da (l:=[(.var 1,none,0)]) ⟨Ai.nil _ _ _ _,tQ⟩ hM.b0) Ai.mono<|By rfl rfl (eC Br rfl rfl) (λw f hM=>CN w f hM.vl CA (T1.var 1).one (some ⟨b21,0,none⟩) 1 dC hM.f0) (λ_=>⟨Ai.mono,tQ⟩) ?_;rintro⟨qa,qc⟩ -;exact Aa 1 [] (λ_=>Be [0,1,2,3,4,5] ER rfl (λ_ h=>.tail _ h)<|EN hS1245 (b18,b21,b7,b8,(ra,rc),(qa,qc)) lE (λw f hM=>hM.less sR sR nE (mR [0,2,3])));refine Ag rfl ?_ ?_;exact Aa 2 [] (λq=>λ_=>Ax [2,3,4,5,6,7] rfl<|EN hS1246 (b18,b21,q,b8,(ra,rc),(pa,pc)) lE (λw f hM=>hM));refine Ag rfl ?_ Aj;exact Aa 2 [] (λq=>λ_=>Ax [2,3,4,5,6,7] rfl<|EN hS1247 (b18,b21,b7,q,(ra,rc),(pa,pc)) lE (λw f hM=>hM))
 refine Lh To (Lj b1 b2 b3 b4 b5 b6 [1,4]) (DG b1 b2 b3 b4 b5 b6 [1,4]) (λ_=>[]) (f16 [1,4]) ?_ (λhS14=>?_)
 ·
  rintro⟨b18,b21,b7,b8,⟨ra,rc⟩,⟨pa,pc⟩⟩;refine Ag rfl ?_ ?_;refine CY 1 rfl rfl<|D9 (λw f=>Ai w f (T1.var 1).one (some ⟨b18,0,none⟩) 1) (λw f hM=>Da (l:=[(.var 1,none,0)]) ⟨Ai.nil _ _ _ _,tQ⟩ hM.b0) Ai.mono<|By rfl rfl (eC Br rfl rfl) (λw f hM=>CN w f hM.vl L8 (T1.var 1).one (some ⟨b18,0,none⟩) 1 dC hM.f0) (λ_=>⟨Ai.mono,tQ⟩) ?_;rintro⟨qa,qc⟩ -;exact Aa 1 [] (λ_=>Be [1,2,3,4,5,6] ER rfl (λ_ h=>.tail _ h)<|EN hS124 (b18,b21,b7,b8,(qa,qc),(pa,pc)) lE (λw f hM=>hM.less sR sR nE (mR [0,2])));refine Ag rfl ?_ ?_;exact Aa 2 [] (λq=>λ_=>Ax [3,4,5,6,7,8] rfl<|EN hS146 (b18,b21,q,b8,(ra,rc),(pa,pc)) lE (λw f hM=>hM));refine Ag rfl ?_ Aj;exact Aa 2 [] (λq=>λ_=>Ax [3,4,5,6,7,8] rfl<|EN hS147 (b18,b21,b7,q,(ra,rc),(pa,pc)) lE (λw f hM=>hM))
 refine Lh Uq (Lj b1 b2 b3 b4 b5 b6 [4,6]) (DG b1 b2 b3 b4 b5 b6 [4,6]) (λ_=>[]) (f16 [4,6]) ?_ (λhS46=>?_)
 ·
  rintro⟨b18,b21,b7,b8,⟨ra,rc⟩,⟨pa,pc⟩⟩;refine Ag rfl ?_ ?_;exact Aa 2 [] (λq=>λ_=>Ax [3,4,5,6,7,8] rfl<|EN hS146 (q,b21,b7,b8,(ra,rc),(pa,pc)) lE (λw f hM=>hM.perm (List.perm_middle (l₁:=[_,_]))));refine Ag rfl ?_ Aj;exact Aa 2 [] (λq=>λ_=>Ax [3,4,5,6,7,8] rfl<|EN hS467 (b18,b21,b7,q,(ra,rc),(pa,pc)) lE (λw f hM=>hM))
 refine Lh Tq (Lj b1 b2 b3 b4 b5 b6 [1,7]) (DG b1 b2 b3 b4 b5 b6 [1,7]) (λ_=>[]) (f16 [1,7]) ?_ (λhS17=>?_)
 ·
  rintro⟨b18,b21,b7,b8,⟨ra,rc⟩,⟨pa,pc⟩⟩;refine Ag rfl ?_ ?_;refine CY 1 rfl rfl<|D9 (λw f=>Ai w f (T1.var 1).one (some ⟨b18,0,none⟩) 1) (λw f hM=>Da (l:=[(.var 1,none,0)]) ⟨Ai.nil _ _ _ _,tQ⟩ hM.b0) Ai.mono<|By rfl rfl (eC Br rfl rfl) (λw f hM=>CN w f hM.vl L8 (T1.var 1).one (some ⟨b18,0,none⟩) 1 dC hM.f0) (λ_=>⟨Ai.mono,tQ⟩) ?_;rintro⟨qa,qc⟩ -;exact Aa 1 [] (λ_=>Be [1,2,3,4,5,6] ER rfl (λ_ h=>.tail _ h)<|EN hS127 (b18,b21,b7,b8,(qa,qc),(pa,pc)) lE (λw f hM=>hM.less sR sR nE (mR [0,2])));refine Ag rfl ?_ ?_;exact Aa 2 [] (λq=>λ_=>Ax [3,4,5,6,7,8] rfl<|EN hS147 (b18,q,b7,b8,(ra,rc),(pa,pc)) lE (λw f hM=>hM.perm (List.perm_middle (l₁:=[_]))));refine Ag rfl ?_ Aj;exact Aa 2 [] (λq=>λ_=>Ax [3,4,5,6,7,8] rfl<|EN hS167 (b18,b21,q,b8,(ra,rc),(pa,pc)) lE (λw f hM=>hM.perm (List.perm_middle (l₁:=[_]))))
 refine Lh Vb (Lj b1 b2 b3 b4 b5 b6 [1,6]) (DG b1 b2 b3 b4 b5 b6 [1,6]) (λ_=>[]) (f16 [1,6]) ?_ (λhS16=>?_)
 ·
  rintro⟨b18,b21,b7,b8,⟨ra,rc⟩,⟨pa,pc⟩⟩;refine Ag rfl ?_ ?_;refine CY 1 rfl rfl<|D9 (λw f=>Ai w f (T1.var 1).one (some ⟨b18,0,none⟩) 1) (λw f hM=>Da (l:=[(.var 1,none,0)]) ⟨Ai.nil _ _ _ _,tQ⟩ hM.b0) Ai.mono<|By rfl rfl (eC Br rfl rfl) (λw f hM=>CN w f hM.vl L8 (T1.var 1).one (some ⟨b18,0,none⟩) 1 dC hM.f0) (λ_=>⟨Ai.mono,tQ⟩) ?_;rintro⟨qa,qc⟩ -;exact Aa 1 [] (λ_=>Be [1,2,3,4,5,6] ER rfl (λ_ h=>.tail _ h)<|EN hS126 (b18,b21,b7,b8,(qa,qc),(pa,pc)) lE (λw f hM=>hM.less sR sR nE (mR [0,2])));refine Ag rfl ?_ ?_;exact Aa 2 [] (λq=>λ_=>Ax [3,4,5,6,7,8] rfl<|EN hS146 (b18,q,b7,b8,(ra,rc),(pa,pc)) lE (λw f hM=>hM.perm (List.perm_middle (l₁:=[_]))));refine Ag rfl ?_ Aj;exact Aa 2 [] (λq=>λ_=>Ax [3,4,5,6,7,8] rfl<|EN hS167 (b18,b21,b7,q,(ra,rc),(pa,pc)) lE (λw f hM=>hM))
 refine Lh Uv (Lj b1 b2 b3 b4 b5 b6 [4,7]) (DG b1 b2 b3 b4 b5 b6 [4,7]) (λ_=>[]) (f16 [4,7]) ?_ (λhS47=>?_)
 ·
  rintro⟨b18,b21,b7,b8,⟨ra,rc⟩,⟨pa,pc⟩⟩;refine Ag rfl ?_ ?_;exact Aa 2 [] (λq=>λ_=>Ax [3,4,5,6,7,8] rfl<|EN hS147 (q,b21,b7,b8,(ra,rc),(pa,pc)) lE (λw f hM=>hM.perm (List.perm_middle (l₁:=[_,_]))));refine Ag rfl ?_ Aj;exact Aa 2 [] (λq=>λ_=>Ax [3,4,5,6,7,8] rfl<|EN hS467 (b18,b21,q,b8,(ra,rc),(pa,pc)) lE (λw f hM=>hM.perm (List.perm_middle (l₁:=[_]))))
 refine Lh UK (Lj b1 b2 b3 b4 b5 b6 [6,7]) (DG b1 b2 b3 b4 b5 b6 [6,7]) (λ_=>[]) (f16 [6,7]) ?_ (λhS67=>?_)
 ·
  rintro⟨b18,b21,b7,b8,⟨ra,rc⟩,⟨pa,pc⟩⟩;refine Ag rfl ?_ ?_;exact Aa 2 [] (λq=>λ_=>Ax [3,4,5,6,7,8] rfl<|EN hS167 (q,b21,b7,b8,(ra,rc),(pa,pc)) lE (λw f hM=>hM.perm (List.perm_middle (l₁:=[_,_]))));refine Ag rfl ?_ Aj;exact Aa 2 [] (λq=>λ_=>Ax [3,4,5,6,7,8] rfl<|EN hS467 (b18,q,b7,b8,(ra,rc),(pa,pc)) lE (λw f hM=>hM.perm (List.perm_middle (l₁:=[_,_]))))
 refine Lh Zi (Lj b1 b2 b3 b4 b5 b6 [1,2]) (DG b1 b2 b3 b4 b5 b6 [1,2]) (λ_=>[]) (f16 [1,2]) ?_ (λhS12=>?_)
 ·
  rintro⟨b18,b21,b7,b8,⟨ra,rc⟩,⟨pa,pc⟩⟩;refine Ag rfl ?_ ?_;exact Aa 2 [] (λq=>λ_=>Ax [1,2,3,4,5,6] rfl<|EN hS124 (b18,q,b7,b8,(ra,rc),(pa,pc)) lE (λw f hM=>hM));refine Ag rfl ?_ ?_;exact Aa 2 [] (λq=>λ_=>Ax [1,2,3,4,5,6] rfl<|EN hS126 (b18,b21,q,b8,(ra,rc),(pa,pc)) lE (λw f hM=>hM));refine Ag rfl ?_ Aj;exact Aa 2 [] (λq=>λ_=>Ax [1,2,3,4,5,6] rfl<|EN hS127 (b18,b21,b7,q,(ra,rc),(pa,pc)) lE (λw f hM=>hM))
 refine Lh iJ (Lj b1 b2 b3 b4 b5 b6 [1]) (DG b1 b2 b3 b4 b5 b6 [1]) (λ_=>[]) (f16 [1]) ?_ (λhS1=>?_)
 ·
  rintro⟨b18,b21,b7,b8,⟨ra,rc⟩,⟨pa,pc⟩⟩;refine Ag rfl ?_ ?_;refine CY 0 rfl rfl<|D9 (λw f=>Ai w f (T1.var 1).one (some ⟨b18,0,none⟩) 1) (λw f hM=>Da (l:=[(.var 1,none,0)]) ⟨Ai.nil _ _ _ _,tQ⟩ hM.b0) Ai.mono<|By rfl rfl (eC Br rfl rfl) (λw f hM=>CN w f hM.vl L8 (T1.var 1).one (some ⟨b18,0,none⟩) 1 dC hM.f0) (λ_=>⟨Ai.mono,tQ⟩) ?_;rintro⟨qa,qc⟩ -;exact Aa 1 [] (λ_=>Be [0,1,2,3,4,5] ER rfl (λ_ h=>.tail _ h)<|EN hS12 (b18,b21,b7,b8,(qa,qc),(pa,pc)) lE (λw f hM=>hM.less sR sR nE (mR [0,2])));refine Ag rfl ?_ ?_;exact Aa 2 [] (λq=>λ_=>Ax [2,3,4,5,6,7] rfl<|EN hS14 (b18,q,b7,b8,(ra,rc),(pa,pc)) lE (λw f hM=>hM));refine Ag rfl ?_ ?_;exact Aa 2 [] (λq=>λ_=>Ax [2,3,4,5,6,7] rfl<|EN hS16 (b18,b21,q,b8,(ra,rc),(pa,pc)) lE (λw f hM=>hM));refine Ag rfl ?_ Aj;exact Aa 2 [] (λq=>λ_=>Ax [2,3,4,5,6,7] rfl<|EN hS17 (b18,b21,b7,q,(ra,rc),(pa,pc)) lE (λw f hM=>hM))
 refine Lh iK (Lj b1 b2 b3 b4 b5 b6 [4]) (DG b1 b2 b3 b4 b5 b6 [4]) (λ_=>[]) (f16 [4]) ?_ (λhS4=>?_)
 ·
  rintro⟨b18,b21,b7,b8,⟨ra,rc⟩,⟨pa,pc⟩⟩;refine Ag rfl ?_ ?_;exact Aa 2 [] (λq=>λ_=>Ax [2,3,4,5,6,7] rfl<|EN hS14 (q,b21,b7,b8,(ra,rc),(pa,pc)) lE (λw f hM=>hM.perm (List.perm_middle (l₁:=[_]))));refine Ag rfl ?_ ?_;exact Aa 2 [] (λq=>λ_=>Ax [2,3,4,5,6,7] rfl<|EN hS46 (b18,b21,q,b8,(ra,rc),(pa,pc)) lE (λw f hM=>hM));refine Ag rfl ?_ Aj;exact Aa 2 [] (λq=>λ_=>Ax [2,3,4,5,6,7] rfl<|EN hS47 (b18,b21,b7,q,(ra,rc),(pa,pc)) lE (λw f hM=>hM))
 refine Lh gY (Lj b1 b2 b3 b4 b5 b6 [7]) (DG b1 b2 b3 b4 b5 b6 [7]) (λ_=>[]) (f16 [7]) ?_ (λhS7=>?_)
 ·
  rintro⟨b18,b21,b7,b8,⟨ra,rc⟩,⟨pa,pc⟩⟩;refine Ag rfl ?_ ?_;exact Aa 2 [] (λq=>λ_=>Ax [2,3,4,5,6,7] rfl<|EN hS17 (q,b21,b7,b8,(ra,rc),(pa,pc)) lE (λw f hM=>hM.perm (List.perm_middle (l₁:=[_]))));refine Ag rfl ?_ ?_;exact Aa 2 [] (λq=>λ_=>Ax [2,3,4,5,6,7] rfl<|EN hS47 (b18,q,b7,b8,(ra,rc),(pa,pc)) lE (λw f hM=>hM.perm (List.perm_middle (l₁:=[_]))));refine Ag rfl ?_ Aj;exact Aa 2 [] (λq=>λ_=>Ax [2,3,4,5,6,7] rfl<|EN hS67 (b18,b21,q,b8,(ra,rc),(pa,pc)) lE (λw f hM=>hM.perm (List.perm_middle (l₁:=[_]))))
 refine Lh jE (Lj b1 b2 b3 b4 b5 b6 [6]) (DG b1 b2 b3 b4 b5 b6 [6]) (λ_=>[]) (f16 [6]) ?_ (λhS6=>?_)
 ·
  rintro⟨b18,b21,b7,b8,⟨ra,rc⟩,⟨pa,pc⟩⟩;refine Ag rfl ?_ ?_;exact Aa 2 [] (λq=>λ_=>Ax [2,3,4,5,6,7] rfl<|EN hS16 (q,b21,b7,b8,(ra,rc),(pa,pc)) lE (λw f hM=>hM.perm (List.perm_middle (l₁:=[_]))));refine Ag rfl ?_ ?_;exact Aa 2 [] (λq=>λ_=>Ax [2,3,4,5,6,7] rfl<|EN hS46 (b18,q,b7,b8,(ra,rc),(pa,pc)) lE (λw f hM=>hM.perm (List.perm_middle (l₁:=[_]))));refine Ag rfl ?_ Aj;exact Aa 2 [] (λq=>λ_=>Ax [2,3,4,5,6,7] rfl<|EN hS67 (b18,b21,b7,q,(ra,rc),(pa,pc)) lE (λw f hM=>hM))
 refine Lh qQ (Lj b1 b2 b3 b4 b5 b6 []) (DG b1 b2 b3 b4 b5 b6 []) (λ_=>[]) (f16 []) ?_ (λhS=>?_)
 ·
  rintro⟨b18,b21,b7,b8,⟨ra,rc⟩,⟨pa,pc⟩⟩;refine Ag rfl ?_ ?_;exact Aa 2 [] (λq=>λ_=>Ax [1,2,3,4,5,6] rfl<|EN hS1 (q,b21,b7,b8,(ra,rc),(pa,pc)) lE (λw f hM=>hM));refine Ag rfl ?_ ?_;exact Aa 2 [] (λq=>λ_=>Ax [1,2,3,4,5,6] rfl<|EN hS4 (b18,q,b7,b8,(ra,rc),(pa,pc)) lE (λw f hM=>hM));refine Ag rfl ?_ ?_;exact Aa 2 [] (λq=>λ_=>Ax [1,2,3,4,5,6] rfl<|EN hS6 (b18,b21,q,b8,(ra,rc),(pa,pc)) lE (λw f hM=>hM));refine Ag rfl ?_ Aj;exact Aa 2 [] (λq=>λ_=>Ax [1,2,3,4,5,6] rfl<|EN hS7 (b18,b21,b7,q,(ra,rc),(pa,pc)) lE (λw f hM=>hM))
 exact EN hS (0,0,0,0,(none,0),(none,0)) lE (λw f hM=>hM);rintro⟨b7,b8,⟨ra,rc⟩,⟨pa,pc⟩⟩ -;dsimp only;refine Aa 8 [] (λb31=>λ_=>Fm rfl rfl (λw f hM=>Qt rfl)<|Aa 4 [] (λ_=>rC 0 rfl rfl<|xU (Om b31 none) (DN 92 95 b31 (.slice none 0 0) none 0 0 []) (λb h=>h.elim .inr λh=>by cases h) (λw f h=>⟨h.2,⟨rfl,.inl ⟨rfl,rfl,rfl⟩⟩,λh=>by cases h⟩) DN.stab<|D9 (λw f=>CW w f [] []) (λw f hM=>rfl) CW.mono<|Aa 6 [7,7,7] (y<|y<|y<|λb32=>λ_=>GD 0 5 [qI,qI,qI] rfl rfl rfl rfl rfl rfl (λw f _ _ hM=>⟨hM.f3,⟨qN,⟨qN,⟨qN,tQ⟩⟩⟩⟩) ⟨kI,⟨kI,⟨kI,tQ⟩⟩⟩ λa1 c1 xs1=>Aa 8 [7,7] (y<|y<|λb33=>λ_=>GD 0 6 [qI,qI] rfl rfl rfl rfl rfl rfl (λw f _ _ hM=>⟨hM.f3,⟨qN,⟨qN,tQ⟩⟩⟩) ⟨kI,⟨kI,tQ⟩⟩ λa2 c2 xs2=>?_))));refine Aa 9 [7,7,4] (y<|y<|y<|λb34=>λ_=>GD 0 9 [qI,qI,qB] rfl rfl rfl rfl rfl rfl (λw f _ _ hM=>⟨hM.f3,⟨qN,⟨qN,⟨qN,tQ⟩⟩⟩⟩) ⟨kI,⟨kI,⟨kB,tQ⟩⟩⟩ λa3 c3 xs3=>Aa 9 [6,6,6] (y<|y<|y<|λb35=>λ_=>GD 0 13 [qF,qF,qF] rfl rfl rfl rfl rfl rfl (λw f _ _ hM=>⟨hM.f3,⟨qN,⟨qN,⟨qN,tQ⟩⟩⟩⟩) ⟨kF,⟨kF,⟨kF,tQ⟩⟩⟩ λa4 c4 xs4=>Aa 8 [6,6] (y<|y<|λb36=>λ_=>GD 0 15 [qF,qF] rfl rfl rfl rfl rfl rfl (λw f _ _ hM=>⟨hM.f3,⟨qN,⟨qN,tQ⟩⟩⟩) ⟨kF,⟨kF,tQ⟩⟩ λa5 c5 xs5=>Aa 9 [6,6,4] (y<|y<|y<|λb37=>λ_=>GD 0 18 [qF,qF,qB] rfl rfl rfl rfl rfl rfl (λw f _ _ hM=>⟨hM.f3,⟨qN,⟨qN,⟨qN,tQ⟩⟩⟩⟩) ⟨kF,⟨kF,⟨kB,tQ⟩⟩⟩ λa6 c6 xs6=>Aa 8 [7,6] (y<|y<|λb38=>λ_=>GD 0 19 [qI,qF] rfl rfl rfl rfl rfl rfl (λw f _ _ hM=>⟨hM.f3,⟨qN,⟨qN,tQ⟩⟩⟩) ⟨kI,⟨kF,tQ⟩⟩ λa7 c7 xs7=>?_)))));refine Aa 8 [6,7] (y<|y<|λb39=>λ_=>GD 0 20 [qF,qI] rfl rfl rfl rfl rfl rfl (λw f _ _ hM=>⟨hM.f3,⟨qN,⟨qN,tQ⟩⟩⟩) ⟨kF,⟨kI,tQ⟩⟩ λa8 c8 xs8=>Aa 8 [6,5] (y<|y<|λb40=>λ_=>GD 0 21 [qF,qS] rfl rfl rfl rfl rfl rfl (λw f _ _ hM=>⟨hM.f3,⟨qN,⟨qN,tQ⟩⟩⟩) ⟨kF,⟨kS,tQ⟩⟩ λa9 c9 xs9=>Aa 7 [6] (y<|λb41=>λ_=>GD 0 23 [qF] rfl rfl rfl rfl rfl rfl (λw f _ _ hM=>⟨hM.f3,⟨qN,tQ⟩⟩) ⟨kF,tQ⟩ λa10 c10 xs10=>Aa 9 [5,5,5] (y<|y<|y<|λb42=>λ_=>GD 0 24 [qS,qS,qS] rfl rfl rfl rfl rfl rfl (λw f _ _ hM=>⟨hM.f3,⟨qN,⟨qN,⟨qN,tQ⟩⟩⟩⟩) ⟨kS,⟨kS,⟨kS,tQ⟩⟩⟩ λa11 c11 xs11=>Aa 8 [5,7] (y<|y<|λb43=>λ_=>GD 0 27 [qS,qI] rfl rfl rfl rfl rfl rfl (λw f _ _ hM=>⟨hM.f3,⟨qN,⟨qN,tQ⟩⟩⟩) ⟨kS,⟨kI,tQ⟩⟩ λa12 c12 xs12=>?_)))))
 refine Aa 10 [5,7,7,5] (y<|y<|y<|y<|λb44=>λ_=>GD 0 28 [qS,qI,qI,qS] rfl rfl rfl rfl rfl rfl (λw f _ _ hM=>⟨hM.f3,⟨qN,⟨qN,⟨qN,⟨qN,tQ⟩⟩⟩⟩⟩) ⟨kS,⟨kI,⟨kI,⟨kS,tQ⟩⟩⟩⟩ λa13 c13 xs13=>Aa 9 [5,5,4] (y<|y<|y<|λb45=>λ_=>GD 0 30 [qS,qS,qB] rfl rfl rfl rfl rfl rfl (λw f _ _ hM=>⟨hM.f3,⟨qN,⟨qN,⟨qN,tQ⟩⟩⟩⟩) ⟨kS,⟨kS,⟨kB,tQ⟩⟩⟩ λa14 c14 xs14=>Aa 8 [7,5] (y<|y<|λb46=>λ_=>GD 0 32 [qI,qS] rfl rfl rfl rfl rfl rfl (λw f _ _ hM=>⟨hM.f3,⟨qN,⟨qN,tQ⟩⟩⟩) ⟨kI,⟨kS,tQ⟩⟩ λa15 c15 xs15=>Aa 8 [5,3] (y<|y<|λb47=>λ_=>GD 0 33 [qS,qU] rfl rfl rfl rfl rfl rfl (λw f _ _ hM=>⟨hM.f3,⟨qN,⟨qN,tQ⟩⟩⟩) ⟨kS,⟨kU,tQ⟩⟩ λa16 c16 xs16=>Aa 8 [3,5] (y<|y<|λb48=>λ_=>GD 0 34 [qU,qS] rfl rfl rfl rfl rfl rfl (λw f _ _ hM=>⟨hM.f3,⟨qN,⟨qN,tQ⟩⟩⟩) ⟨kU,⟨kS,tQ⟩⟩ λa17 c17 xs17=>?_)))));refine Aa 8 [2,1] (y<|y<|λb49=>λ_=>GD 0 35 [qV,(qR ra rc)] rfl rfl rfl rfl rfl rfl (λw f _ _ hM=>⟨hM.f3,⟨qN,⟨hM.f2,tQ⟩⟩⟩) ⟨kV,⟨(Dm dC dC tQ),tQ⟩⟩ λa18 c18 xs18=>Aa 8 [1,2] (y<|y<|λb50=>λ_=>GD 0 36 [(qR ra rc),qV] rfl rfl rfl rfl rfl rfl (λw f _ _ hM=>⟨hM.f3,⟨hM.f2,⟨qN,tQ⟩⟩⟩) ⟨(Dm dC dC tQ),⟨kV,tQ⟩⟩ λa19 c19 xs19=>Aa 9 [1,2,3] (y<|y<|y<|λb51=>λ_=>GD 0 37 [(qR ra rc),qV,qU] rfl rfl rfl rfl rfl rfl (λw f _ _ hM=>⟨hM.f3,⟨hM.f2,⟨qN,⟨qN,tQ⟩⟩⟩⟩) ⟨(Dm dC dC tQ),⟨kV,⟨kU,tQ⟩⟩⟩ λa20 c20 xs20=>Aa 8 [2,0] (y<|y<|λb52=>λ_=>GD 0 38 [qV,(qP pa pc)] rfl rfl rfl rfl rfl rfl (λw f _ _ hM=>⟨hM.f3,⟨qN,⟨hM.f1,tQ⟩⟩⟩) ⟨kV,⟨(Dm dC dC tQ),tQ⟩⟩ λa21 c21 xs21=>Aa 8 [0,2] (y<|y<|λb53=>λ_=>GD 0 39 [(qP pa pc),qV] rfl rfl rfl rfl rfl rfl (λw f _ _ hM=>⟨hM.f3,⟨hM.f1,⟨qN,tQ⟩⟩⟩) ⟨(Dm dC dC tQ),⟨kV,tQ⟩⟩ λa22 c22 xs22=>?_)))));exact Aa 9 [0,2,3] (y<|y<|y<|λb54=>λ_=>GD 0 40 [(qP pa pc),qV,qU] rfl rfl rfl rfl rfl rfl (λw f _ _ hM=>⟨hM.f3,⟨hM.f1,⟨qN,⟨qN,tQ⟩⟩⟩⟩) ⟨(Dm dC dC tQ),⟨kV,⟨kU,tQ⟩⟩⟩ λa23 c23 xs23=>Aa 4 [] (λ_=>Fm rfl rfl (λw f hM=>Al rfl Nt hM.res.blk rfl)<|Aa 4 [] (λ_=>AV (Dx rfl rfl) (λw f hM=>by obtain⟨f2,h1,h2⟩:=hM.res.fin (l:=Ck) hM.exm (λb hb=>(hM.mi b (.inr hb)).2.2.elim id λh=>h.elim) hM.f0 rfl dC;exact⟨(a23,c23),f2,rfl,tQ,h1,⟨h2,tQ⟩⟩))))
def PM(p:SE):Bd:=⟨p.1,Cg p.2.2 [1] (T1.var (0-1)).one,[0-1]⟩
def GY(i:Nat):AD:=((Ck.take i).map PM).reverse
variable {nu:Int}{i:Nat}{dt:lU}
theorem Wo{p:SE}(h:Ck[i]?=some p):GY (i+1)=PM p::GY i:=by
 unfold GY;rw[Dt h,List.map_append,List.reverse_append];rfl
theorem R5:GY Ck.length=DA:=kR
theorem N4:∀p,p∈Ck→p.2.2.bnd:=by
 intro p hp;simp only[Ck,List.mem_cons,List.not_mem_nil,or_false] at hp;have h1:∀{l:List (T1×Option Addr×Nat)},Yv l→(Gt (Tk l)).bnd:=λh=>V6 (QO h);have hv:=Bu 1;have h0:∀{t:lU},t.length≤1000000→(c0 t).bnd:=λh=>CT h;have hr:(T1.con L8 (T1.var 1).one).bnd:=Dm dC dC tQ;have hp2:(T1.con CA (T1.var 1).one).bnd:=Dm dC dC tQ;have bi:=h0 (t:=bI) dC;have bf:=h0 (t:=bF) dC;have bs:=h0 (t:=bS) dC;have bb:=h0 (t:=bB) dC;have bu:=h0 (t:=bU) dC
 repeat' (rcases hp with rfl|hp)
 all_goals first|(subst hp)|skip
 all_goals (refine h1 ?_;simp only[Yv,and_true];simp[*])
theorem S7{nm:lU}{ar:Nat}(h:HG[i]?=some (nm,dt,nu,ar)):ar≤1:=by
 have:∀p∈HG,p.2.2.2≤1:=dC;exact this _ (List.mem_of_getElem? h)
theorem QZ{nm:lU}{ar:Nat}(h:HG[i]?=some (nm,dt,nu,ar)):dt.length≤1000000:=by
 have:∀p∈HG,p.2.1.length≤1000000:=dC;exact this _ (List.mem_of_getElem? h)
theorem vW:DD (⟨[],0,XO 0,[],[],0⟩:CS):=⟨tQ,λ_ _ h=>(by cases h),tQ,tQ,tQ,Int.le_refl _⟩
set_option maxHeartbeats 2000000 in
theorem UW(w:World)(f:Fq)(hv:Vl w f)(hG:Fg w f) :
  B3 prog 14 #[] w (O1 (α:=Ad×Option Addr) (λx=>.tuple #[pB x.1.cb,.pointer x.2]) (λx=>x.1.ok) (λ_=>False) (λx=>Bz x.1) (λx=>As 63 128 x.1 Ll) (λx=>[λw f=>AJ w f DA x.2]) w f):=by
 refine CV (X:=X0 w f) (H:=[]) (R:=[]) (B:=[]) (Fs:=[λw f=>Fg w f]) (f:=f) func14 rfl rfl rfl (Cz hv ⟨hG,tQ⟩ ⟨Fg.mono,tQ⟩)<|Aa 8 [] (λ_=>cY (XX:=λ_ _=>False) rfl rfl (eC mF rfl rfl) (λw f hM=>(XU w f hM.vl).retP) (λ_=>BB.stab (.inl rfl) (.inr rfl)) (λ_=>trivial) (λ_ _ _ _ _ h=>h.elim) ?_);rintro⟨sb,mb⟩ hsm;dsimp only at hsm ⊢;refine Z0 (K:=C4) rfl rfl λkm hkm=>Z0 (K:=C4) rfl rfl λdm hdm=>Z0 (K:=C4) rfl rfl λrm hrm=>Aa 7 [] (λb1=>λ_=>JU (λw f hM=>(hM.own b1 (.head _)).2.2) λhcb=>rC 0 rfl rfl ?_);obtain⟨A,rfl,rfl,rfl,rfl,rfl,rfl⟩:∃A:Ad,A.cb=b1∧A.sb=sb∧A.mb=mb∧A.km=km∧A.dm=dm∧A.rm=rm:=⟨⟨b1,sb,mb,km,dm,rm⟩,rfl,rfl,rfl,rfl,rfl,rfl⟩;have hA:A.ok:=⟨λe=>hcb (.inl (.inl (.inl (.inl e)))),⟨λe=>hcb (.inl (.inl (.inl (.inr e)))),λe=>hcb (.inl (.inl (.inr e))),λe=>hcb (.inl (.inr e)),λe=>hcb (.inr e)⟩,⟨hsm,λe=>hkm (.inl e.symm),λe=>hdm (.inl (.inl e.symm)),λe=>hrm (.inl (.inl (.inl e.symm)))⟩,⟨λe=>hkm (.inr e.symm),λe=>hdm (.inl (.inr e.symm)),λe=>hrm (.inl (.inl (.inr e.symm))),λe=>hdm (.inr e.symm),λe=>hrm (.inl (.inr e.symm)),λe=>hrm (.inr e.symm)⟩⟩;refine xU (Bz A) (As 63 128 A (⟨[],0,XO 0,[],[],0⟩:CS)) (λb h=>by rcases h with h|h|h|h|h|h;exact .inr h;exact .inl (.inl (.inl (.inl (.inl h))));exact .inl (.inl (.inl (.inl (.inr h))));exact .inl (.inl (.inl (.inr h)));exact .inl (.inl (.inr h));exact .inl (.inr h)) (λw f h=>⟨h.2,⟨0,h.1.1.1.1⟩,⟨[],h.1.1.1.2,rfl⟩,h.1.1.2,h.1.2⟩) As.stab<|Aa 1 [] (λ_=>By rfl rfl (eC nT rfl rfl) (λw f hM=>U4 w f hM.vl) (λx=>⟨λ_ _ _ _ h hF=>Cs.mono h hF,tQ⟩) ?_);rintro kb -;refine Aa 5 [] (λ_=>?_);refine GC (α:=Nat) (λi=>8-i) (λi=>i≤8∧DD (⟨[],0,XO i,[],[],0⟩:CS)) (λi=>(E4 2 (pB A.cb) 15 (.slice (some ⟨kb,0,none⟩) 8 8) 16 (iV ((8:Nat):Int)) 17 (iV (i:Int)))) (λi=>⟨λ_=>False,Bz A,As 63 128 A (⟨[],0,XO i,[],[],0⟩:CS),w,f⟩) (λi=>[]) (λi=>[]) (λi=>[]) (λi=>[λw f=>Cs w f kb 0 QK,λw f=>Fg w f]) (0) ⟨Nat.zero_le _,vW⟩ lE (λw f hM=>hM.less sR sR nE (mR [0,1])) ?_;rintro i ⟨hi,hwi⟩;refine Aa 6 [] (λ_=>AZ 18 rfl rfl (λh1=>?_) (λh1=>?_));refine Aa 6 [] (λ_=>?_);have hil:i<8:=by have:=of_decide_eq_true h1;omega
 obtain⟨⟨nm,dt,nu,ar⟩,hx⟩:∃v,HG[i]?=some v:=⟨_,List.getElem?_eq_getElem (l:=HG) hil⟩;have har:ar≤1:=S7 hx;refine LQ (α:=Unit) (λx=>True) (λx=>[⟨kb,0+i*4,cC (nm,dt,nu,ar)⟩]) (λx=>[]) (λw f hM=>⟨(),tQ,(λe he=>by cases he with|head=>exact Cs.flat cC 4 (λ_=>rfl) HG 0 i _ hM.f0 hx|tail _ h=>cases h),λ_ h=>by cases h⟩) (λx=>Az.mem tQ) ?_;rintro⟨⟩ -;refine Aa 11 [100,0,0,0] (aI oM<|y2<|λb2=>y<|y<|λ_=>By rfl rfl (eC Br rfl rfl) (λw f hM=>Bl w f hM.vl dt) (λx=>trivial) ?_);rintro⟨⟩ -;refine Aa 14 [0,1] (λb3=>y<|y<|λ_=>QP 55 4 ?_);refine GC (α:=Nat×List Value×Option Addr×Nat) (λx=>ar-x.1) (λx=>x.1≤ar) (λx=>(E8 2 (pB A.cb) 4 (pB b2) 5 (pB b3) 15 (.slice (some ⟨kb,0,none⟩) 8 8) 16 (iV ((8:Nat):Int)) 17 (iV (i:Int)) 26 (iV (ar:Int)) 27 (iV (x.1:Int)))) (λx=>⟨λ_=>False,Bz A,As 63 128 A (⟨[],0,XO i,[],[],0⟩:CS),w,f⟩) (λx=>[⟨b3,[.slice x.2.2.1 x.1 x.2.2.2,iV 1,iV 0,S dt,.slice none 0 0,.slice none 0 0],91,true⟩,⟨b2,cC (nm,dt,nu,ar),88,true⟩]) (λx=>[⟨55,4,x.2.2.1,x.2.2.2,x.1,x.2.1⟩]) (λx=>[]) (λx=>[λw f=>Bi w f (N2 x.1) x.2.1,λw f=>Cs w f kb 0 QK,λw f=>Fg w f]) (0,[],none,0) (Nat.zero_le _) lE (λw f hM=>hM.more (B':=[]) (F':=[λw f=>Bi w f .nil []]) nE (AI.mem ⟨rfl,tQ⟩) (Az.mem ⟨Bi.mono,tQ⟩) |>.less (sK (sK sZ)) sR nE (mR [0,1,2])) ?_;rintro⟨j,xs,ra,rc⟩ hj;dsimp only at hj ⊢;have hj0:=hj;refine Aa 6 [] (λ_=>AZ 28 rfl rfl (λh2=>?_) (λh2=>?_));refine Aa 5 [] (λ_=>?_);have hjl:j<ar:=by have:=of_decide_eq_true h2;omega
 refine CU [1] Aq (.rd 0 (.br 1 (.br 2 (.br 3 (.br 4 (.rd 5 (.br 6 .fin .fin)) .fin) .fin) .fin) (.br 2 (.br 1 (.br 3 (.br 4 (.rd 5 (.br 6 .fin .fin)) .fin) .fin) (.br 3 (.br 1 (.br 4 (.rd 5 (.br 6 .fin .fin)) .fin) .fin) .fin)) .fin))) rfl kR<|A6 1 [] (λ_=>Ag rfl ?_ ?_);refine Aa 2 [0] (y<|λ_=>Ax [1] rfl<|Ag rfl ?_ Aj);refine By rfl rfl (eC Br rfl rfl) (λw f hM=>Bl w f hM.vl [115,116,114,105,110,103]) (λx=>trivial) ?_;rintro⟨⟩ -;refine Aa 1 [] (λ_=>Ax [1] rfl<|Ag rfl ?_ Aj);refine Aa 2 [] (λb4=>λ_=>Ax [2] rfl<|Ag rfl ?_ Aj);refine D4 0 0 rfl rfl Df rfl rfl rfl rfl rfl rfl rfl rfl (λ_ _=>rfl) oM oM λra2 rc2=>Aa 1 [] (λ_=>Ax [2] rfl<|A6 1 [] (λ_=>Ag rfl ?_ Aj));exact Aa 2 [1] (y<|λ_=>Ax [2] rfl<|Bo<|Aa 6 [] (aI ⟨oM,oM⟩<|λ_=>DF ((j+1,xs++tC (c0 bS) none 0,ra2,rc2)) (show ar-(j+1)<ar-j by omega) (show j+1≤ar by omega) lE (λw f hM=>⟨_,(hM.more (B':=[]) (F':=[λw f=>Bi w f (N2 (j+1)) (xs++tC (c0 bS) none 0)]) nE (AI.mem ⟨Bi.snoc (Ai.nil _ _ _ _) hM.f0,tQ⟩) (Az.mem ⟨Bi.mono,tQ⟩)).less (sD (sK (sK sZ))) sR nE (mR [0,2,3])⟩)));refine Ag rfl ?_ Aj;refine By rfl rfl (eC Br rfl rfl) (λw f hM=>Bl w f hM.vl [115,116,114,105,110,103]) (λx=>trivial) ?_;rintro⟨⟩ -;refine Aa 1 [] (λ_=>Ax [1] rfl<|Ag rfl ?_ ?_);refine Aa 2 [0] (y<|λ_=>Ax [1] rfl<|Ag rfl ?_ Aj);refine Aa 2 [] (λb5=>λ_=>Ax [2] rfl<|Ag rfl ?_ Aj);refine D4 0 0 rfl rfl Df rfl rfl rfl rfl rfl rfl rfl rfl (λ_ _=>rfl) oM oM λra2 rc2=>Aa 1 [] (λ_=>Ax [2] rfl<|A6 1 [] (λ_=>Ag rfl ?_ Aj));exact Aa 2 [1] (y<|λ_=>Ax [2] rfl<|Bo<|Aa 6 [] (aI ⟨oM,oM⟩<|λ_=>DF ((j+1,xs++tC (c0 bS) none 0,ra2,rc2)) (show ar-(j+1)<ar-j by omega) (show j+1≤ar by omega) lE (λw f hM=>⟨_,(hM.more (B':=[]) (F':=[λw f=>Bi w f (N2 (j+1)) (xs++tC (c0 bS) none 0)]) nE (AI.mem ⟨Bi.snoc (Ai.nil _ _ _ _) hM.f0,tQ⟩) (Az.mem ⟨Bi.mono,tQ⟩)).less (sD (sK (sK sZ))) sR nE (mR [0,2,3])⟩)));refine Ag rfl ?_ Aj;refine Aa 2 [] (λb6=>λ_=>Ax [2] rfl<|Ag rfl ?_ Aj);refine Aa 2 [1] (y<|λ_=>Ax [2] rfl<|Ag rfl ?_ Aj);refine D4 0 0 rfl rfl Df rfl rfl rfl rfl rfl rfl rfl rfl (λ_ _=>rfl) oM oM λra2 rc2=>Aa 1 [] (λ_=>Ax [2] rfl<|A6 1 [] (λ_=>Ag rfl ?_ Aj));exact Aa 2 [1] (y<|λ_=>Ax [2] rfl<|Bo<|Aa 6 [] (aI ⟨oM,oM⟩<|λ_=>DF ((j+1,xs++tC (c0 bS) none 0,ra2,rc2)) (show ar-(j+1)<ar-j by omega) (show j+1≤ar by omega) lE (λw f hM=>⟨_,(hM.more (B':=[]) (F':=[λw f=>Bi w f (N2 (j+1)) (xs++tC (c0 bS) none 0)]) nE (AI.mem ⟨Bi.snoc (Ai.nil _ _ _ _) hM.f0,tQ⟩) (Az.mem ⟨Bi.mono,tQ⟩)).less (sD (sK (sK sZ))) sR nE (mR [0,2,3])⟩)));refine Aa 3 [] (λ_=>Gp<|Aa 2 [] (λ_=>?_));obtain rfl:j=ar:=by have:=of_decide_eq_false h2;omega
 refine QU (λw f=>Ai w f (N2 j) ra rc) Ai.mono (λw f hM=>Hs hM hM.f0)<|LV (λw=>AM w A.cb [pB A.sb,.map (some A.km),.map (some A.dm),.map (some A.rm),iV 0] 63) (λw f h _=>h.blk) [0,1] Aq (rd [0,1,2,3,4,5,6] (.br 7 .fin .fin)) rfl kR kR kR (λ_ _ _ _ _ h=>h)<|A6 3 [] (λ_=>Hm rfl rfl rfl (λw hK=>Al rfl OQ hK.2.2 rfl)<|A6 3 [1,0] (y<|y<|λ_=>Ag rfl ?_ Aj));exact rY (m:=⟨N2 j,c0 dt,[]⟩) (aa:=ra) (ac:=rc) (oa:=none) (oc:=0) (va:=none) (vc:=0) (i1:=0) hA hwi rfl rfl rfl rfl (by unfold bV tC;simp only[KO];rfl) O5 Ha (No i hil _ hx) rfl rfl rfl<|Aa 1 [] (λ_=>Be [0,1] (λw f h _=>h.blk) rfl (λ_ h=>h)<|Bo<|Aa 6 [] (aI ⟨oM,oM⟩<|λ_=>DF (i+1) (show 8-(i+1)<8-i by omega) ⟨show i+1≤8 by omega,(by rw[Og hx];exact hwi.addCons (No i hil _ hx) ⟨by rw[KO];dsimp only;omega,MU _,CT (QZ hx),Nat.zero_le _⟩)⟩ lE (λw f hM=>⟨_,by rw[Og hx];exact hM.less (sD (sD sZ)) sR nE (mR [2,3])⟩)));refine Aa 3 [] (λ_=>Gp<|Aa 3 [] (λ_=>?_));obtain rfl:i=8:=by have:=of_decide_eq_false h1;omega
 refine Aa 4 [] (λ_=>Fm (v:=iV 0) rfl rfl (λw f hM=>Al rfl HP hM.res.blk rfl)<|Aa 3 [] (aI ⟨oM,oM⟩<|λ_=>xS (v:=0-1) hA rfl rfl rfl HP<|Aa 10 [] (λ_=>By rfl rfl (eC pG rfl rfl) (λw f hM=>Tv w f hM.vl hM.f1) (λx=>⟨Um.mono,tQ⟩) ?_)));rintro⟨pa,pc⟩ -;refine Aa 5 [] (λ_=>?_);refine GC (α:=Nat×Option Addr) (λx=>Ck.length-x.1) (λx=>x.1≤Ck.length) (λx=>(E5 2 (pB A.cb) 6 (.pointer x.2) 51 (.slice pa Ck.length pc) 52 (iV (Ck.length:Int)) 53 (iV (x.1:Int)))) (λx=>⟨λ_=>False,Bz A,As 63 128 A (⟨[],0,XO 8,[],[],0-1⟩:CS),w,f⟩) (λx=>[]) (λx=>[]) (λx=>[]) (λx=>[λw f=>Um w f Ck pa pc,λw f=>AJ w f (GY x.1) x.2]) (0,none) (Nat.zero_le _) lE (λw f hM=>hM.more (B':=[]) (F':=[λw f=>AJ w f (GY 0) none]) nE (AI.mem ⟨rfl,tQ⟩) (Az.mem ⟨AJ.mono,tQ⟩) |>.less sR sR nE (mR [1,0])) ?_;rintro⟨i,ea⟩ hi;dsimp only at hi ⊢;refine Aa 6 [] (λ_=>AZ 54 rfl rfl (λh3=>?_) (λh3=>?_));refine Aa 6 [] (λ_=>?_);have hpl:Ck.length≤1000:=dC;have hil:i<Ck.length:=by have:=of_decide_eq_true h3;omega
 obtain⟨p,hx⟩:∃v,Ck[i]?=some v:=⟨_,List.getElem?_eq_getElem hil⟩;have hpb:p.2.2.bnd:=N4 p (List.mem_of_getElem? hx);refine LQ (α:=Nat×Option Addr×Nat) (λx=>pa=some ⟨x.1,0,none⟩) (λx=>[⟨x.1,0+i*6,pC p x.2.1 x.2.2⟩]) (λx=>[λw f=>Ai w f p.2.2.kids x.2.1 x.2.2]) (λw f hM=>let ⟨_,b,xs,h1,h2,h3⟩:=hM.f0;let ⟨a,c,h4,h5⟩:=CW.get h3 h2 hx;⟨(b,a,c),h1,(λe he=>by cases he with|head=>exact h4|tail _ h=>cases h),AI.mem ⟨h5,tQ⟩⟩) (λx=>Az.mem ⟨Ai.mono,tQ⟩) ?_;rintro⟨pb,qa,qc⟩ rfl;refine Aa 7 [100,0,0] (aI oM<|y2<|λb7=>y<|λ_=>?_);refine X6 (α:=Option Addr) (λx=>True) (λx=>(E5 2 (pB A.cb) 6 (.pointer x) 51 (.slice (some (⟨pb,0,none⟩:Addr)) Ck.length pc) 52 (iV (Ck.length:Int)) 53 (iV (i:Int)))) (λx=>⟨λ_=>False,Bz A,As 63 128 A (⟨[],0,XO 8,[],[],0-1⟩:CS),w,f⟩) (λx=>[]) (λx=>[]) (λx=>[]) (λx=>[λw f=>Um w f Ck (some (⟨pb,0,none⟩:Addr)) pc,λw f=>AJ w f (PM p::GY i) x]) ?_ ?_;refine LV (λw=>AM w A.cb [pB A.sb,.map (some A.km),.map (some A.dm),.map (some A.rm),iV (0-1)] 63) (λw f h _=>h.blk) [0] Aq (rd [0,1,2,3,5,6,7,8,12,13,14,15,18] (.br 4 (.br 9 (.br 10 (.br 11 (.br 16 (.rd 17 (.rd 19 (.br 20 (.rd 21 .fin) .fin))) .fin) (.br 16 (.br 11 (.rd 17 (.rd 19 (.br 20 (.rd 21 .fin) .fin))) .fin) .fin)) (.br 16 (.br 10 (.br 11 (.rd 17 (.rd 19 (.br 20 (.rd 21 .fin) .fin))) .fin) .fin) .fin)) (.br 16 (.br 9 (.br 10 (.br 11 (.rd 17 (.rd 19 (.br 20 (.rd 21 .fin) .fin))) .fin) .fin) .fin) .fin)) (.br 9 (.br 4 (.br 10 (.br 11 (.br 16 (.rd 17 (.rd 19 (.br 20 (.rd 21 .fin) .fin))) .fin) (.br 16 (.br 11 (.rd 17 (.rd 19 (.br 20 (.rd 21 .fin) .fin))) .fin) .fin)) (.br 16 (.br 10 (.br 11 (.rd 17 (.rd 19 (.br 20 (.rd 21 .fin) .fin))) .fin) .fin) .fin)) (.br 10 (.br 4 (.br 11 (.br 16 (.rd 17 (.rd 19 (.br 20 (.rd 21 .fin) .fin))) .fin) (.br 16 (.br 11 (.rd 17 (.rd 19 (.br 20 (.rd 21 .fin) .fin))) .fin) .fin)) (.br 16 (.br 4 (.br 11 (.rd 17 (.rd 19 (.br 20 (.rd 21 .fin) .fin))) .fin) .fin) .fin)) (.br 16 (.br 4 (.br 10 (.br 11 (.rd 17 (.rd 19 (.br 20 (.rd 21 .fin) .fin))) .fin) .fin) (.br 10 (.br 4 (.br 11 (.rd 17 (.rd 19 (.br 20 (.rd 21 .fin) .fin))) .fin) .fin) .fin)) .fin))) (.br 16 (.br 4 (.br 9 (.br 10 (.br 11 (.rd 17 (.rd 19 (.br 20 (.rd 21 .fin) .fin))) .fin) .fin) .fin) (.br 9 (.br 4 (.br 10 (.br 11 (.rd 17 (.rd 19 (.br 20 (.rd 21 .fin) .fin))) .fin) .fin) (.br 10 (.br 4 (.br 11 (.rd 17 (.rd 19 (.br 20 (.rd 21 .fin) .fin))) .fin) .fin) .fin)) .fin)) .fin)))) rfl kR kR kR (λ_ _ _ _ _ h=>h)<|A6 7 [0,0] (y<|y<|λ_=>Hm rfl rfl rfl (λw hK=>(Al rfl HP hK.2.2 rfl:AL _ _ _ _ _ (iV (0-1)) _))<|A6 3 [] (λ_=>Hm rfl rfl rfl (λw hK=>(Al rfl HP hK.2.2 rfl:AL _ _ _ _ _ (iV (0-1)) _))<|A6 1 [] (λ_=>Ag rfl ?_ ?_)));refine Aa 2 [] (λb8=>λ_=>Be [1] (λw f h _=>h.blk) rfl (λ_ h=>h)<|Ag rfl ?_ ?_);refine By rfl rfl (eC Hb rfl rfl) (λw f hM=>DQ w f hM.vl (0-1)) (λx=>trivial) ?_;rintro⟨⟩ -;refine Aa 1 [] (λ_=>Be [1] (λw f h _=>h.blk) rfl (λ_ h=>h)<|Ag rfl ?_ ?_)
 refine Aa 2 [] (λb9=>λ_=>Be [2] (λw f h _=>h.blk) rfl (λ_ h=>h)<|Ag rfl ?_ ?_);refine CY 1 rfl rfl<|CY 0 rfl rfl<|By (α:=Option Addr×Nat) rfl rfl (eC Dr rfl rfl) (λw f hM=>B7 w f hM.vl [1] (some ⟨b8,0,none⟩) 1 (T1.var (0-1)).one (some ⟨b9,0,none⟩) 1 dC dC tQ ⟨Nat.le_refl _,.inr ⟨b8,0,rfl,hM.b1⟩⟩ (Da (l:=[(.var (0-1),none,0)]) ⟨Ai.nil _ _ _ _,tQ⟩ hM.b0) p.2.2 qa qc hpb hM.f0) (λ_=>⟨Ai.mono,tQ⟩) ?_;rintro⟨wa,wc⟩ -;refine Aa 1 [] (λ_=>Be [0] (λw f h _=>h.blk) rfl (λ_ h=>.tail _ (.tail _ h))<|Ag rfl ?_ Aj);refine Aa 2 [] (λb10=>λ_=>Be [1] (λw f h _=>h.blk) rfl (λ_ h=>.tail _ (.tail _ h))<|A6 2 [] (λ_=>Ag rfl ?_ Aj));exact Aa 2 [] (λb11=>λ_=>Be [2] (λw f h _=>h.blk) rfl (λ_ h=>.tail _ (.tail _ h))<|A6 1 [] (λ_=>Bo<|CY 0 rfl rfl<|CY 0 rfl rfl<|Lk (some ⟨b11,0,none⟩) tQ lE (λw f hM=>⟨f,(hM.more (B':=[]) (F':=[λw f=>AJ w f (PM p::GY i) (some ⟨b11,0,none⟩)]) nE (AI.mem ⟨⟨b11,wa,wc,some ⟨b10,0,none⟩,1,ea,rfl,hM.b1,hM.f0,⟨Nat.le_refl _,.inr ⟨b10,0,rfl,hM.b0⟩⟩,hM.f3⟩,tQ⟩) (Az.mem ⟨AJ.mono,tQ⟩)).less (sD sZ) sR nE (mR [3,0])⟩)));refine Ag rfl ?_ Aj;refine Aa 2 [] (λb12=>λ_=>Be [3] (λw f h _=>h.blk) rfl (λ_ h=>h)<|Ag rfl ?_ Aj);refine CY 2 rfl rfl<|CY 1 rfl rfl<|By (α:=Option Addr×Nat) rfl rfl (eC Dr rfl rfl) (λw f hM=>B7 w f hM.vl [1] (some ⟨b8,0,none⟩) 1 (T1.var (0-1)).one (some ⟨b9,0,none⟩) 1 dC dC tQ ⟨Nat.le_refl _,.inr ⟨b8,0,rfl,hM.b1⟩⟩ (Da (l:=[(.var (0-1),none,0)]) ⟨Ai.nil _ _ _ _,tQ⟩ hM.b0) p.2.2 qa qc hpb hM.f0) (λ_=>⟨Ai.mono,tQ⟩) ?_;rintro⟨wa,wc⟩ -;refine Aa 1 [] (λ_=>Be [1] (λw f h _=>h.blk) rfl (λ_ h=>.tail _ (.tail _ h))<|A6 2 [] (λ_=>Ag rfl ?_ Aj));exact Aa 2 [] (λb13=>λ_=>Be [2] (λw f h _=>h.blk) rfl (λ_ h=>.tail _ (.tail _ h))<|A6 1 [] (λ_=>Bo<|CY 0 rfl rfl<|CY 0 rfl rfl<|Lk (some ⟨b13,0,none⟩) tQ lE (λw f hM=>⟨f,(hM.more (B':=[]) (F':=[λw f=>AJ w f (PM p::GY i) (some ⟨b13,0,none⟩)]) nE (AI.mem ⟨⟨b13,wa,wc,some ⟨b12,0,none⟩,1,ea,rfl,hM.b1,hM.f0,⟨Nat.le_refl _,.inr ⟨b12,0,rfl,hM.b0⟩⟩,hM.f3⟩,tQ⟩) (Az.mem ⟨AJ.mono,tQ⟩)).less (sD sZ) sR nE (mR [3,0])⟩)));refine Ag rfl ?_ Aj;refine Aa 2 [] (λb14=>λ_=>Be [2] (λw f h _=>h.blk) rfl (λ_ h=>h)<|Ag rfl ?_ Aj);refine Aa 2 [] (λb15=>λ_=>Be [3] (λw f h _=>h.blk) rfl (λ_ h=>h)<|Ag rfl ?_ Aj);refine CY 2 rfl rfl<|CY 0 rfl rfl<|By (α:=Option Addr×Nat) rfl rfl (eC Dr rfl rfl) (λw f hM=>B7 w f hM.vl [1] (some ⟨b8,0,none⟩) 1 (T1.var (0-1)).one (some ⟨b15,0,none⟩) 1 dC dC tQ ⟨Nat.le_refl _,.inr ⟨b8,0,rfl,hM.b1⟩⟩ (Da (l:=[(.var (0-1),none,0)]) ⟨Ai.nil _ _ _ _,tQ⟩ hM.b0) p.2.2 qa qc hpb hM.f0) (λ_=>⟨Ai.mono,tQ⟩) ?_;rintro⟨wa,wc⟩ -;refine Aa 1 [] (λ_=>Be [1] (λw f h _=>h.blk) rfl (λ_ h=>.tail _ (.tail _ h))<|A6 2 [] (λ_=>Ag rfl ?_ Aj))
 exact Aa 2 [] (λb16=>λ_=>Be [2] (λw f h _=>h.blk) rfl (λ_ h=>.tail _ (.tail _ h))<|A6 1 [] (λ_=>Bo<|CY 0 rfl rfl<|CY 0 rfl rfl<|Lk (some ⟨b16,0,none⟩) tQ lE (λw f hM=>⟨f,(hM.more (B':=[]) (F':=[λw f=>AJ w f (PM p::GY i) (some ⟨b16,0,none⟩)]) nE (AI.mem ⟨⟨b16,wa,wc,some ⟨b14,0,none⟩,1,ea,rfl,hM.b1,hM.f0,⟨Nat.le_refl _,.inr ⟨b14,0,rfl,hM.b0⟩⟩,hM.f3⟩,tQ⟩) (Az.mem ⟨AJ.mono,tQ⟩)).less (sD sZ) sR nE (mR [3,0])⟩)));refine Ag rfl ?_ Aj;refine Aa 2 [] (λb17=>λ_=>Be [2] (λw f h _=>h.blk) rfl (λ_ h=>h)<|Ag rfl ?_ Aj);refine By rfl rfl (eC Hb rfl rfl) (λw f hM=>DQ w f hM.vl (0-1)) (λx=>trivial) ?_;rintro⟨⟩ -;refine Aa 1 [] (λ_=>Be [2] (λw f h _=>h.blk) rfl (λ_ h=>h)<|Ag rfl ?_ Aj);refine Aa 2 [] (λb18=>λ_=>Be [3] (λw f h _=>h.blk) rfl (λ_ h=>h)<|Ag rfl ?_ Aj);refine CY 2 rfl rfl<|CY 0 rfl rfl<|By (α:=Option Addr×Nat) rfl rfl (eC Dr rfl rfl) (λw f hM=>B7 w f hM.vl [1] (some ⟨b8,0,none⟩) 1 (T1.var (0-1)).one (some ⟨b18,0,none⟩) 1 dC dC tQ ⟨Nat.le_refl _,.inr ⟨b8,0,rfl,hM.b1⟩⟩ (Da (l:=[(.var (0-1),none,0)]) ⟨Ai.nil _ _ _ _,tQ⟩ hM.b0) p.2.2 qa qc hpb hM.f0) (λ_=>⟨Ai.mono,tQ⟩) ?_;rintro⟨wa,wc⟩ -;refine Aa 1 [] (λ_=>Be [1] (λw f h _=>h.blk) rfl (λ_ h=>.tail _ (.tail _ h))<|A6 2 [] (λ_=>Ag rfl ?_ Aj));exact Aa 2 [] (λb19=>λ_=>Be [2] (λw f h _=>h.blk) rfl (λ_ h=>.tail _ (.tail _ h))<|A6 1 [] (λ_=>Bo<|CY 0 rfl rfl<|CY 0 rfl rfl<|Lk (some ⟨b19,0,none⟩) tQ lE (λw f hM=>⟨f,(hM.more (B':=[]) (F':=[λw f=>AJ w f (PM p::GY i) (some ⟨b19,0,none⟩)]) nE (AI.mem ⟨⟨b19,wa,wc,some ⟨b17,0,none⟩,1,ea,rfl,hM.b1,hM.f0,⟨Nat.le_refl _,.inr ⟨b17,0,rfl,hM.b0⟩⟩,hM.f3⟩,tQ⟩) (Az.mem ⟨AJ.mono,tQ⟩)).less (sD sZ) sR nE (mR [3,0])⟩)));refine Ag rfl ?_ ?_;refine By rfl rfl (eC Hb rfl rfl) (λw f hM=>DQ w f hM.vl (0-1)) (λx=>trivial) ?_;rintro⟨⟩ -;refine Aa 1 [] (λ_=>Be [0] (λw f h _=>h.blk) rfl (λ_ h=>h)<|Ag rfl ?_ ?_);refine Aa 2 [] (λb20=>λ_=>Be [1] (λw f h _=>h.blk) rfl (λ_ h=>h)<|Ag rfl ?_ ?_);refine Aa 2 [] (λb21=>λ_=>Be [2] (λw f h _=>h.blk) rfl (λ_ h=>h)<|Ag rfl ?_ ?_);refine CY 1 rfl rfl<|CY 0 rfl rfl<|By (α:=Option Addr×Nat) rfl rfl (eC Dr rfl rfl) (λw f hM=>B7 w f hM.vl [1] (some ⟨b20,0,none⟩) 1 (T1.var (0-1)).one (some ⟨b21,0,none⟩) 1 dC dC tQ ⟨Nat.le_refl _,.inr ⟨b20,0,rfl,hM.b1⟩⟩ (Da (l:=[(.var (0-1),none,0)]) ⟨Ai.nil _ _ _ _,tQ⟩ hM.b0) p.2.2 qa qc hpb hM.f0) (λ_=>⟨Ai.mono,tQ⟩) ?_;rintro⟨wa,wc⟩ -;refine Aa 1 [] (λ_=>Be [0] (λw f h _=>h.blk) rfl (λ_ h=>.tail _ (.tail _ h))<|Ag rfl ?_ Aj);refine Aa 2 [] (λb22=>λ_=>Be [1] (λw f h _=>h.blk) rfl (λ_ h=>.tail _ (.tail _ h))<|A6 2 [] (λ_=>Ag rfl ?_ Aj))
 exact Aa 2 [] (λb23=>λ_=>Be [2] (λw f h _=>h.blk) rfl (λ_ h=>.tail _ (.tail _ h))<|A6 1 [] (λ_=>Bo<|CY 0 rfl rfl<|CY 0 rfl rfl<|Lk (some ⟨b23,0,none⟩) tQ lE (λw f hM=>⟨f,(hM.more (B':=[]) (F':=[λw f=>AJ w f (PM p::GY i) (some ⟨b23,0,none⟩)]) nE (AI.mem ⟨⟨b23,wa,wc,some ⟨b22,0,none⟩,1,ea,rfl,hM.b1,hM.f0,⟨Nat.le_refl _,.inr ⟨b22,0,rfl,hM.b0⟩⟩,hM.f3⟩,tQ⟩) (Az.mem ⟨AJ.mono,tQ⟩)).less (sD sZ) sR nE (mR [3,0])⟩)));refine Ag rfl ?_ Aj;refine Aa 2 [] (λb24=>λ_=>Be [3] (λw f h _=>h.blk) rfl (λ_ h=>h)<|Ag rfl ?_ Aj);refine CY 2 rfl rfl<|CY 1 rfl rfl<|By (α:=Option Addr×Nat) rfl rfl (eC Dr rfl rfl) (λw f hM=>B7 w f hM.vl [1] (some ⟨b20,0,none⟩) 1 (T1.var (0-1)).one (some ⟨b21,0,none⟩) 1 dC dC tQ ⟨Nat.le_refl _,.inr ⟨b20,0,rfl,hM.b1⟩⟩ (Da (l:=[(.var (0-1),none,0)]) ⟨Ai.nil _ _ _ _,tQ⟩ hM.b0) p.2.2 qa qc hpb hM.f0) (λ_=>⟨Ai.mono,tQ⟩) ?_;rintro⟨wa,wc⟩ -;refine Aa 1 [] (λ_=>Be [1] (λw f h _=>h.blk) rfl (λ_ h=>.tail _ (.tail _ h))<|A6 2 [] (λ_=>Ag rfl ?_ Aj));exact Aa 2 [] (λb25=>λ_=>Be [2] (λw f h _=>h.blk) rfl (λ_ h=>.tail _ (.tail _ h))<|A6 1 [] (λ_=>Bo<|CY 0 rfl rfl<|CY 0 rfl rfl<|Lk (some ⟨b25,0,none⟩) tQ lE (λw f hM=>⟨f,(hM.more (B':=[]) (F':=[λw f=>AJ w f (PM p::GY i) (some ⟨b25,0,none⟩)]) nE (AI.mem ⟨⟨b25,wa,wc,some ⟨b24,0,none⟩,1,ea,rfl,hM.b1,hM.f0,⟨Nat.le_refl _,.inr ⟨b24,0,rfl,hM.b0⟩⟩,hM.f3⟩,tQ⟩) (Az.mem ⟨AJ.mono,tQ⟩)).less (sD sZ) sR nE (mR [3,0])⟩)));refine Ag rfl ?_ Aj;refine Aa 2 [] (λb26=>λ_=>Be [2] (λw f h _=>h.blk) rfl (λ_ h=>h)<|Ag rfl ?_ Aj);refine Aa 2 [] (λb27=>λ_=>Be [3] (λw f h _=>h.blk) rfl (λ_ h=>h)<|Ag rfl ?_ Aj);refine CY 2 rfl rfl<|CY 0 rfl rfl<|By (α:=Option Addr×Nat) rfl rfl (eC Dr rfl rfl) (λw f hM=>B7 w f hM.vl [1] (some ⟨b20,0,none⟩) 1 (T1.var (0-1)).one (some ⟨b27,0,none⟩) 1 dC dC tQ ⟨Nat.le_refl _,.inr ⟨b20,0,rfl,hM.b1⟩⟩ (Da (l:=[(.var (0-1),none,0)]) ⟨Ai.nil _ _ _ _,tQ⟩ hM.b0) p.2.2 qa qc hpb hM.f0) (λ_=>⟨Ai.mono,tQ⟩) ?_;rintro⟨wa,wc⟩ -;refine Aa 1 [] (λ_=>Be [1] (λw f h _=>h.blk) rfl (λ_ h=>.tail _ (.tail _ h))<|A6 2 [] (λ_=>Ag rfl ?_ Aj));exact Aa 2 [] (λb28=>λ_=>Be [2] (λw f h _=>h.blk) rfl (λ_ h=>.tail _ (.tail _ h))<|A6 1 [] (λ_=>Bo<|CY 0 rfl rfl<|CY 0 rfl rfl<|Lk (some ⟨b28,0,none⟩) tQ lE (λw f hM=>⟨f,(hM.more (B':=[]) (F':=[λw f=>AJ w f (PM p::GY i) (some ⟨b28,0,none⟩)]) nE (AI.mem ⟨⟨b28,wa,wc,some ⟨b26,0,none⟩,1,ea,rfl,hM.b1,hM.f0,⟨Nat.le_refl _,.inr ⟨b26,0,rfl,hM.b0⟩⟩,hM.f3⟩,tQ⟩) (Az.mem ⟨AJ.mono,tQ⟩)).less (sD sZ) sR nE (mR [3,0])⟩)));refine Ag rfl ?_ ?_;refine Aa 2 [] (λb29=>λ_=>Be [1] (λw f h _=>h.blk) rfl (λ_ h=>h)<|Ag rfl ?_ ?_);refine Aa 2 [] (λb30=>λ_=>Be [2] (λw f h _=>h.blk) rfl (λ_ h=>h)<|Ag rfl ?_ ?_)
 refine CY 0 rfl rfl<|CY 0 rfl rfl<|By (α:=Option Addr×Nat) rfl rfl (eC Dr rfl rfl) (λw f hM=>B7 w f hM.vl [1] (some ⟨b30,0,none⟩) 1 (T1.var (0-1)).one (some ⟨b29,0,none⟩) 1 dC dC tQ ⟨Nat.le_refl _,.inr ⟨b30,0,rfl,hM.b1⟩⟩ (Da (l:=[(.var (0-1),none,0)]) ⟨Ai.nil _ _ _ _,tQ⟩ hM.b0) p.2.2 qa qc hpb hM.f0) (λ_=>⟨Ai.mono,tQ⟩) ?_;rintro⟨wa,wc⟩ -;refine Aa 1 [] (λ_=>Be [0] (λw f h _=>h.blk) rfl (λ_ h=>.tail _ (.tail _ h))<|Ag rfl ?_ Aj);refine Aa 2 [] (λb31=>λ_=>Be [1] (λw f h _=>h.blk) rfl (λ_ h=>.tail _ (.tail _ h))<|A6 2 [] (λ_=>Ag rfl ?_ Aj));exact Aa 2 [] (λb32=>λ_=>Be [2] (λw f h _=>h.blk) rfl (λ_ h=>.tail _ (.tail _ h))<|A6 1 [] (λ_=>Bo<|CY 0 rfl rfl<|CY 0 rfl rfl<|Lk (some ⟨b32,0,none⟩) tQ lE (λw f hM=>⟨f,(hM.more (B':=[]) (F':=[λw f=>AJ w f (PM p::GY i) (some ⟨b32,0,none⟩)]) nE (AI.mem ⟨⟨b32,wa,wc,some ⟨b31,0,none⟩,1,ea,rfl,hM.b1,hM.f0,⟨Nat.le_refl _,.inr ⟨b31,0,rfl,hM.b0⟩⟩,hM.f3⟩,tQ⟩) (Az.mem ⟨AJ.mono,tQ⟩)).less (sD sZ) sR nE (mR [3,0])⟩)));refine Ag rfl ?_ Aj;refine Aa 2 [] (λb33=>λ_=>Be [3] (λw f h _=>h.blk) rfl (λ_ h=>h)<|Ag rfl ?_ Aj);refine CY 1 rfl rfl<|CY 1 rfl rfl<|By (α:=Option Addr×Nat) rfl rfl (eC Dr rfl rfl) (λw f hM=>B7 w f hM.vl [1] (some ⟨b30,0,none⟩) 1 (T1.var (0-1)).one (some ⟨b29,0,none⟩) 1 dC dC tQ ⟨Nat.le_refl _,.inr ⟨b30,0,rfl,hM.b1⟩⟩ (Da (l:=[(.var (0-1),none,0)]) ⟨Ai.nil _ _ _ _,tQ⟩ hM.b0) p.2.2 qa qc hpb hM.f0) (λ_=>⟨Ai.mono,tQ⟩) ?_;rintro⟨wa,wc⟩ -;refine Aa 1 [] (λ_=>Be [1] (λw f h _=>h.blk) rfl (λ_ h=>.tail _ (.tail _ h))<|A6 2 [] (λ_=>Ag rfl ?_ Aj));exact Aa 2 [] (λb34=>λ_=>Be [2] (λw f h _=>h.blk) rfl (λ_ h=>.tail _ (.tail _ h))<|A6 1 [] (λ_=>Bo<|CY 0 rfl rfl<|CY 0 rfl rfl<|Lk (some ⟨b34,0,none⟩) tQ lE (λw f hM=>⟨f,(hM.more (B':=[]) (F':=[λw f=>AJ w f (PM p::GY i) (some ⟨b34,0,none⟩)]) nE (AI.mem ⟨⟨b34,wa,wc,some ⟨b33,0,none⟩,1,ea,rfl,hM.b1,hM.f0,⟨Nat.le_refl _,.inr ⟨b33,0,rfl,hM.b0⟩⟩,hM.f3⟩,tQ⟩) (Az.mem ⟨AJ.mono,tQ⟩)).less (sD sZ) sR nE (mR [3,0])⟩)));refine Ag rfl ?_ Aj;refine Aa 2 [] (λb35=>λ_=>Be [2] (λw f h _=>h.blk) rfl (λ_ h=>h)<|Ag rfl ?_ Aj);refine Aa 2 [] (λb36=>λ_=>Be [3] (λw f h _=>h.blk) rfl (λ_ h=>h)<|Ag rfl ?_ Aj);refine CY 0 rfl rfl<|CY 1 rfl rfl<|By (α:=Option Addr×Nat) rfl rfl (eC Dr rfl rfl) (λw f hM=>B7 w f hM.vl [1] (some ⟨b36,0,none⟩) 1 (T1.var (0-1)).one (some ⟨b29,0,none⟩) 1 dC dC tQ ⟨Nat.le_refl _,.inr ⟨b36,0,rfl,hM.b1⟩⟩ (Da (l:=[(.var (0-1),none,0)]) ⟨Ai.nil _ _ _ _,tQ⟩ hM.b0) p.2.2 qa qc hpb hM.f0) (λ_=>⟨Ai.mono,tQ⟩) ?_;rintro⟨wa,wc⟩ -;refine Aa 1 [] (λ_=>Be [1] (λw f h _=>h.blk) rfl (λ_ h=>.tail _ (.tail _ h))<|A6 2 [] (λ_=>Ag rfl ?_ Aj))
 exact Aa 2 [] (λb37=>λ_=>Be [2] (λw f h _=>h.blk) rfl (λ_ h=>.tail _ (.tail _ h))<|A6 1 [] (λ_=>Bo<|CY 0 rfl rfl<|CY 0 rfl rfl<|Lk (some ⟨b37,0,none⟩) tQ lE (λw f hM=>⟨f,(hM.more (B':=[]) (F':=[λw f=>AJ w f (PM p::GY i) (some ⟨b37,0,none⟩)]) nE (AI.mem ⟨⟨b37,wa,wc,some ⟨b35,0,none⟩,1,ea,rfl,hM.b1,hM.f0,⟨Nat.le_refl _,.inr ⟨b35,0,rfl,hM.b0⟩⟩,hM.f3⟩,tQ⟩) (Az.mem ⟨AJ.mono,tQ⟩)).less (sD sZ) sR nE (mR [3,0])⟩)));refine Ag rfl ?_ Aj;refine Aa 2 [] (λb38=>λ_=>Be [1] (λw f h _=>h.blk) rfl (λ_ h=>h)<|Ag rfl ?_ ?_);refine Aa 2 [] (λb39=>λ_=>Be [2] (λw f h _=>h.blk) rfl (λ_ h=>h)<|Ag rfl ?_ Aj);refine Aa 2 [] (λb40=>λ_=>Be [3] (λw f h _=>h.blk) rfl (λ_ h=>h)<|Ag rfl ?_ Aj);refine CY 1 rfl rfl<|CY 0 rfl rfl<|By (α:=Option Addr×Nat) rfl rfl (eC Dr rfl rfl) (λw f hM=>B7 w f hM.vl [1] (some ⟨b39,0,none⟩) 1 (T1.var (0-1)).one (some ⟨b40,0,none⟩) 1 dC dC tQ ⟨Nat.le_refl _,.inr ⟨b39,0,rfl,hM.b1⟩⟩ (Da (l:=[(.var (0-1),none,0)]) ⟨Ai.nil _ _ _ _,tQ⟩ hM.b0) p.2.2 qa qc hpb hM.f0) (λ_=>⟨Ai.mono,tQ⟩) ?_;rintro⟨wa,wc⟩ -;refine Aa 1 [] (λ_=>Be [1] (λw f h _=>h.blk) rfl (λ_ h=>.tail _ (.tail _ h))<|A6 2 [] (λ_=>Ag rfl ?_ Aj));exact Aa 2 [] (λb41=>λ_=>Be [2] (λw f h _=>h.blk) rfl (λ_ h=>.tail _ (.tail _ h))<|A6 1 [] (λ_=>Bo<|CY 0 rfl rfl<|CY 0 rfl rfl<|Lk (some ⟨b41,0,none⟩) tQ lE (λw f hM=>⟨f,(hM.more (B':=[]) (F':=[λw f=>AJ w f (PM p::GY i) (some ⟨b41,0,none⟩)]) nE (AI.mem ⟨⟨b41,wa,wc,some ⟨b38,0,none⟩,1,ea,rfl,hM.b1,hM.f0,⟨Nat.le_refl _,.inr ⟨b38,0,rfl,hM.b0⟩⟩,hM.f3⟩,tQ⟩) (Az.mem ⟨AJ.mono,tQ⟩)).less (sD sZ) sR nE (mR [3,0])⟩)));refine Ag rfl ?_ Aj;refine Aa 2 [] (λb42=>λ_=>Be [2] (λw f h _=>h.blk) rfl (λ_ h=>h)<|Ag rfl ?_ Aj);refine Aa 2 [] (λb43=>λ_=>Be [3] (λw f h _=>h.blk) rfl (λ_ h=>h)<|Ag rfl ?_ Aj);refine CY 0 rfl rfl<|CY 0 rfl rfl<|By (α:=Option Addr×Nat) rfl rfl (eC Dr rfl rfl) (λw f hM=>B7 w f hM.vl [1] (some ⟨b43,0,none⟩) 1 (T1.var (0-1)).one (some ⟨b42,0,none⟩) 1 dC dC tQ ⟨Nat.le_refl _,.inr ⟨b43,0,rfl,hM.b1⟩⟩ (Da (l:=[(.var (0-1),none,0)]) ⟨Ai.nil _ _ _ _,tQ⟩ hM.b0) p.2.2 qa qc hpb hM.f0) (λ_=>⟨Ai.mono,tQ⟩) ?_;rintro⟨wa,wc⟩ -;refine Aa 1 [] (λ_=>Be [1] (λw f h _=>h.blk) rfl (λ_ h=>.tail _ (.tail _ h))<|A6 2 [] (λ_=>Ag rfl ?_ Aj));exact Aa 2 [] (λb44=>λ_=>Be [2] (λw f h _=>h.blk) rfl (λ_ h=>.tail _ (.tail _ h))<|A6 1 [] (λ_=>Bo<|CY 0 rfl rfl<|CY 0 rfl rfl<|Lk (some ⟨b44,0,none⟩) tQ lE (λw f hM=>⟨f,(hM.more (B':=[]) (F':=[λw f=>AJ w f (PM p::GY i) (some ⟨b44,0,none⟩)]) nE (AI.mem ⟨⟨b44,wa,wc,some ⟨b38,0,none⟩,1,ea,rfl,hM.b1,hM.f0,⟨Nat.le_refl _,.inr ⟨b38,0,rfl,hM.b0⟩⟩,hM.f3⟩,tQ⟩) (Az.mem ⟨AJ.mono,tQ⟩)).less (sD sZ) sR nE (mR [3,0])⟩)));refine Ag rfl ?_ Aj;refine Aa 2 [] (λb45=>λ_=>Be [1] (λw f h _=>h.blk) rfl (λ_ h=>h)<|Ag rfl ?_ ?_);refine Aa 2 [] (λb46=>λ_=>Be [2] (λw f h _=>h.blk) rfl (λ_ h=>h)<|Ag rfl ?_ Aj)
 refine By rfl rfl (eC Hb rfl rfl) (λw f hM=>DQ w f hM.vl (0-1)) (λx=>trivial) ?_;rintro⟨⟩ -;refine Aa 1 [] (λ_=>Be [2] (λw f h _=>h.blk) rfl (λ_ h=>h)<|Ag rfl ?_ Aj);refine Aa 2 [] (λb47=>λ_=>Be [3] (λw f h _=>h.blk) rfl (λ_ h=>h)<|Ag rfl ?_ Aj);refine CY 1 rfl rfl<|CY 0 rfl rfl<|By (α:=Option Addr×Nat) rfl rfl (eC Dr rfl rfl) (λw f hM=>B7 w f hM.vl [1] (some ⟨b46,0,none⟩) 1 (T1.var (0-1)).one (some ⟨b47,0,none⟩) 1 dC dC tQ ⟨Nat.le_refl _,.inr ⟨b46,0,rfl,hM.b1⟩⟩ (Da (l:=[(.var (0-1),none,0)]) ⟨Ai.nil _ _ _ _,tQ⟩ hM.b0) p.2.2 qa qc hpb hM.f0) (λ_=>⟨Ai.mono,tQ⟩) ?_;rintro⟨wa,wc⟩ -;refine Aa 1 [] (λ_=>Be [1] (λw f h _=>h.blk) rfl (λ_ h=>.tail _ (.tail _ h))<|A6 2 [] (λ_=>Ag rfl ?_ Aj));exact Aa 2 [] (λb48=>λ_=>Be [2] (λw f h _=>h.blk) rfl (λ_ h=>.tail _ (.tail _ h))<|A6 1 [] (λ_=>Bo<|CY 0 rfl rfl<|CY 0 rfl rfl<|Lk (some ⟨b48,0,none⟩) tQ lE (λw f hM=>⟨f,(hM.more (B':=[]) (F':=[λw f=>AJ w f (PM p::GY i) (some ⟨b48,0,none⟩)]) nE (AI.mem ⟨⟨b48,wa,wc,some ⟨b45,0,none⟩,1,ea,rfl,hM.b1,hM.f0,⟨Nat.le_refl _,.inr ⟨b45,0,rfl,hM.b0⟩⟩,hM.f3⟩,tQ⟩) (Az.mem ⟨AJ.mono,tQ⟩)).less (sD sZ) sR nE (mR [3,0])⟩)));refine Ag rfl ?_ Aj;refine By rfl rfl (eC Hb rfl rfl) (λw f hM=>DQ w f hM.vl (0-1)) (λx=>trivial) ?_;rintro⟨⟩ -;refine Aa 1 [] (λ_=>Be [1] (λw f h _=>h.blk) rfl (λ_ h=>h)<|Ag rfl ?_ ?_);refine Aa 2 [] (λb49=>λ_=>Be [2] (λw f h _=>h.blk) rfl (λ_ h=>h)<|Ag rfl ?_ Aj);refine Aa 2 [] (λb50=>λ_=>Be [3] (λw f h _=>h.blk) rfl (λ_ h=>h)<|Ag rfl ?_ Aj);refine CY 1 rfl rfl<|CY 0 rfl rfl<|By (α:=Option Addr×Nat) rfl rfl (eC Dr rfl rfl) (λw f hM=>B7 w f hM.vl [1] (some ⟨b49,0,none⟩) 1 (T1.var (0-1)).one (some ⟨b50,0,none⟩) 1 dC dC tQ ⟨Nat.le_refl _,.inr ⟨b49,0,rfl,hM.b1⟩⟩ (Da (l:=[(.var (0-1),none,0)]) ⟨Ai.nil _ _ _ _,tQ⟩ hM.b0) p.2.2 qa qc hpb hM.f0) (λ_=>⟨Ai.mono,tQ⟩) ?_;rintro⟨wa,wc⟩ -;refine Aa 1 [] (λ_=>Be [1] (λw f h _=>h.blk) rfl (λ_ h=>.tail _ (.tail _ h))<|A6 2 [] (λ_=>Ag rfl ?_ Aj));exact Aa 2 [] (λb51=>λ_=>Be [2] (λw f h _=>h.blk) rfl (λ_ h=>.tail _ (.tail _ h))<|A6 1 [] (λ_=>Bo<|CY 0 rfl rfl<|CY 0 rfl rfl<|Lk (some ⟨b51,0,none⟩) tQ lE (λw f hM=>⟨f,(hM.more (B':=[]) (F':=[λw f=>AJ w f (PM p::GY i) (some ⟨b51,0,none⟩)]) nE (AI.mem ⟨⟨b51,wa,wc,some ⟨b45,0,none⟩,1,ea,rfl,hM.b1,hM.f0,⟨Nat.le_refl _,.inr ⟨b45,0,rfl,hM.b0⟩⟩,hM.f3⟩,tQ⟩) (Az.mem ⟨AJ.mono,tQ⟩)).less (sD sZ) sR nE (mR [3,0])⟩)));refine Ag rfl ?_ Aj;refine Aa 2 [] (λb52=>λ_=>Be [2] (λw f h _=>h.blk) rfl (λ_ h=>h)<|Ag rfl ?_ Aj);refine Aa 2 [] (λb53=>λ_=>Be [3] (λw f h _=>h.blk) rfl (λ_ h=>h)<|Ag rfl ?_ Aj)
 refine CY 0 rfl rfl<|CY 0 rfl rfl<|By (α:=Option Addr×Nat) rfl rfl (eC Dr rfl rfl) (λw f hM=>B7 w f hM.vl [1] (some ⟨b53,0,none⟩) 1 (T1.var (0-1)).one (some ⟨b52,0,none⟩) 1 dC dC tQ ⟨Nat.le_refl _,.inr ⟨b53,0,rfl,hM.b1⟩⟩ (Da (l:=[(.var (0-1),none,0)]) ⟨Ai.nil _ _ _ _,tQ⟩ hM.b0) p.2.2 qa qc hpb hM.f0) (λ_=>⟨Ai.mono,tQ⟩) ?_;rintro⟨wa,wc⟩ -;refine Aa 1 [] (λ_=>Be [1] (λw f h _=>h.blk) rfl (λ_ h=>.tail _ (.tail _ h))<|A6 2 [] (λ_=>Ag rfl ?_ Aj));exact Aa 2 [] (λb54=>λ_=>Be [2] (λw f h _=>h.blk) rfl (λ_ h=>.tail _ (.tail _ h))<|A6 1 [] (λ_=>Bo<|CY 0 rfl rfl<|CY 0 rfl rfl<|Lk (some ⟨b54,0,none⟩) tQ lE (λw f hM=>⟨f,(hM.more (B':=[]) (F':=[λw f=>AJ w f (PM p::GY i) (some ⟨b54,0,none⟩)]) nE (AI.mem ⟨⟨b54,wa,wc,some ⟨b45,0,none⟩,1,ea,rfl,hM.b1,hM.f0,⟨Nat.le_refl _,.inr ⟨b45,0,rfl,hM.b0⟩⟩,hM.f3⟩,tQ⟩) (Az.mem ⟨AJ.mono,tQ⟩)).less (sD sZ) sR nE (mR [3,0])⟩)));rintro ea2 -;dsimp only;exact Aa 6 [] (aI ⟨oM,oM⟩<|λ_=>DF ((i+1,ea2)) (show Ck.length-(i+1)<Ck.length-i by omega) (show i+1≤_ by omega) lE (λw f hM=>⟨_,by dsimp only;rw[Wo hx];exact hM⟩));refine Aa 3 [] (λ_=>Gp<|Aa 11 [] (λ_=>?_));obtain rfl:i=Ck.length:=by have:=of_decide_eq_false h3;omega
 exact AV (λw f hM=>Cn rfl (Ak rfl) (Ak rfl)) (λw f hM=>⟨(A,ea),f,rfl,hA,hM.exm,(λb hb=>let ⟨h1,h2,h3⟩:=hM.mi b hb;h3.elim (λh=>.inr ⟨h,h1,h2⟩) .inl),hM.res,⟨R5▸hM.f1,tQ⟩⟩)
theorem SY(w:World)(c2 c3 c4:Nat) :
  CallsD prog 13 [pB c2,pB c3,pB c4].toArray .returning w λr m w'=>∃x,r=.returned x∧m=.returning∧AR w w':=by
 refine Du (R:=λw'=>AR w w') func13 rfl rfl rfl rfl Nb<|(?_:A5 prog _ (F8 prog _ (λ_ w'=>AR w w') λ_ _=>False) [] (X0 w (λ_=>0)) [] [] [] (.code _) [] _ []) w (λ_=>0) (Cz (λ_ _=>rfl) tQ tQ);exact Aa 3 [] (λ_=>Fm rfl rfl (λw f hM=>PS QH rfl)<|Aa 7 [] (λ_=>eU (λw f hM=>DE rfl) (λw f hM=>hM.exm.stp.ext)))
theorem TL(w:World)(f:Fq)(hv:Vl w f)(c2 c3 c4:Nat)(v2 x3 y3 v4:Value)(hc2:AM w c2 [v2] 23)(hc3:AM w c3 [x3,y3] 25)(hc4:AM w c4 [v4] 26)(hf:f c2=0∧f c3=0∧f c4=0)(hn:c2≠c3∧c2≠c4∧c3≠c4)(er:Er) :
  CallsD prog 13 [pB c2,pB c3,pB c4].toArray (.panicking (trI 46 er)) w λr m w'=>∃x,r=.returned x∧m=.panicking [{v:=.iface 46 (.agg #[iV er.1,iV er.2.1,iV er.2.2]),recovered:=true}]∧(∃f',CD (λb=>b=c2∨b=c3∨b=c4) w f w' f'∧AM w' c2 [.slice none 0 0] 23∧AM w' c3 [iV er.1,iV er.2.1] 25∧AM w' c4 [iV er.2.2] 26):=by
 refine Du (R:=λw'=>∃f',CD (λb=>b=c2∨b=c3∨b=c4) w f w' f'∧AM w' c2 [.slice none 0 0] 23∧AM w' c3 [iV er.1,iV er.2.1] 25∧AM w' c4 [iV er.2.2] 26) func13 rfl rfl rfl rfl PL<|(?_:A5 prog _ (F8 prog _ (λ_ w'=>∃f',CD (λb=>b=c2∨b=c3∨b=c4) w f w' f'∧AM w' c2 [.slice none 0 0] 23∧AM w' c3 [iV er.1,iV er.2.1] 25∧AM w' c4 [iV er.2.2] 26) λ_ _=>False) [] ⟨λb=>b=c2∨b=c3∨b=c4,λ_=>False,λ_ _=>True,w,f⟩ [] [] [] (.code _) [] _ [⟨c2,[v2],23,false⟩,⟨c3,[x3,y3],25,false⟩,⟨c4,[v4],26,false⟩]) w f (iH hv hc2 hc3 hc4 hf hn);refine Aa 3 [] (λ_=>Fm rfl rfl (λw f hM=>Q2 QH rfl)<|Aa 5 [] (λ_=>Fm rfl rfl (λw f hM=>Uk rfl mP)<|Aa 11 [0] (λb1=>y<|λ_=>CU [0] Aq (rd [0,1,2,3] (.br 4 (.br 5 (.br 6 .fin .fin) .fin) .fin)) rfl kR<|A6 4 [0,0] (y<|y<|λ_=>Ag rfl ?_ Aj))));refine Aa 2 [1] (y<|λ_=>Ax [0] rfl<|Ag rfl ?_ Aj);refine Aa 2 [2] (y<|λ_=>Ax [0] rfl<|Ag rfl ?_ Aj);exact Aa 2 [3] (y<|λ_=>Ax [0] rfl<|Bo<|Aa 1 [] (λ_=>eU (λw f hM=>DE rfl) (λw f hM=>⟨f,hM.exm,hM.blk _ oW,hM.blk _ Wj,hM.blk _ Vj⟩)))
end Go.Proofs.YtkahkniflkadoaaGreatDoor
namespace Go.SP
open Go.SW Go.RowKit
def Nd.wft:Nd→Prop
 |.nil=>True
 |.cons op _ _ _ _ k r=>(op=41∨(op=43∧k.wfm 2)∨((op=44∨op=45∨op=46)∧k.wfm 3))∧r.wft
def Fx:List (lU×T1)→Ty
 | []=>.nil
 |b::l=>b.2.cons (Fx l)
theorem DZ(b:lU×T1):∀l:List (lU×T1),Fx (l++[b])=(Fx l).snoc b.2
 | []=>by simp[Fx,Ty.snoc,Ty.app,T1.one]
 |c::l=>by
   simp only[List.cons_append,Fx,DZ b l]
   cases c.2 <;> rfl
def bC:List (lU×lU)→List Value
 | []=>[]
 |b::l=>S b.1::S b.2::bC l
theorem bC_app:∀a b:List (lU×lU),bC (a++b)=bC a++bC b
 | [],_=>rfl
 |x::a,b=>by simp only[List.cons_append,bC,bC_app a b]
theorem YS:∀a:List (lU×lU),(bC a).length=a.length*2
 | []=>rfl
 |x::a=>by simp only[bC,List.length_cons,YS a];omega
abbrev Tz(l:List (lU×T1)):List (lU×lU):=l.map λb=>(b.1,[])
section
variable{s s1:CS}{e e1:AD}{op ln co nm:Int}{tx:lU}{k r:Nd}{out:List (lU×T1)}{er:Er}
theorem TG(h:CG s e op ln co tx k=.ok (none,e1,s1)):BH s e (.cons op ln co tx nm k r) out=BH s1 e1 r out:=by rw[BH,h]
theorem Ir{b:lU×T1}(h:CG s e op ln co tx k=.ok (some b,e1,s1)):BH s e (.cons op ln co tx nm k r) out=BH s1 e1 r (out++[b]):=by rw[BH,h]
theorem DC(h:CG s e op ln co tx k=.error er):BH s e (.cons op ln co tx nm k r) out=.error er:=by rw[BH,h]
end
structure vL(Rl:CS→CS→Prop):Prop where
 refl:∀s,Rl s s
 trans:∀{s t u},Rl s t→Rl t u→Rl s u
 fresh:∀s,Rl s (A2 s).2
 has:∀{s a b ln co s'},Es s a b ln co=.ok s'→Rl s s'
section
variable{Rl:CS→CS→Prop}(hR:vL Rl)
include hR
theorem Nv:∀(l:List Int)(s:CS),Rl s (Bf l s).2
 | [],s=>hR.refl s
 |_::l,s=>hR.trans (hR.fresh s) (Nv l _)
variable {e':AD}{s s':CS}{co ln:Int}{n:Nat}{k:Nd}
theorem QV{tx:lU}{k:Nat}{a:Ty}{o:T1}(h:GJ s tx k ln co=.ok (a,o,s')):Rl s s':=by
 unfold GJ at h
 split at h
 · cases h
 · split at h
   · cases h
     exact Nv hR _ _
   · cases h
theorem Z5{e:AD}{tx:lU}{t:T1}(h:Ft s e tx ln co=.ok (t,s')):Rl s s':=by
 unfold Ft at h
 split at h
 · cases h
 · split at h
   · cases h
   · cases h
     exact Nv hR _ _
def vD(Rl:CS→CS→Prop)(p:Kn):Prop:=∀{s e op ln co tx nm k t s'},p s e op ln co tx nm k=.ok (t,s')→Rl s s'
def tD(Rl:CS→CS→Prop)(p:Lo):Prop:=∀{s e op ln co tx nm k t e' s'},p s e op ln co tx nm k=.ok (t,e',s')→Rl s s'
variable{p:Kn}(hp:vD Rl p)
include hp
theorem Na{e:AD}:∀(k:Nd){s s':CS}{l:Ty},D5 p e s k=.ok (l,s')→Rl s s'
 |.nil,_,_,_,h=>by cases h;exact hR.refl _
 |.cons op ln co tx nm k r,s,s',l,h=>by
   unfold D5 at h
   split at h
   · cases h
   · rename_i h1
     split at h
     · cases h
     · rename_i h2
       cases h
       exact hR.trans (hp h1) (Na r h2)
theorem RS{e:AD}:∀(k:Nd){s s':CS}{l:Ty},EL p e s l k=.ok s'→Rl s s'
 |.nil,_,_,_,h=>by cases h;exact hR.refl _
 |.cons op ln co tx nm k r,s,s',l,h=>by
   unfold EL at h
   split at h
   · cases h
   · rename_i h1
     split at h
     · cases h
     · rename_i h2
       exact hR.trans (hp h1) (hR.trans (hR.has h2) (RS r h))
theorem VQ{e:AD}:∀(k:Nd){s s':CS}{t t':T1},HS p e s t k=.ok (t',s')→Rl s s'
 |.nil,_,_,_,_,h=>by cases h;exact hR.refl _
 |.cons op ln co tx nm k r,s,s',t,t',h=>by
   unfold HS at h
   split at h
   · cases h
   · rename_i h1
     split at h
     · cases h
     · rename_i h2
       exact hR.trans (hp h1) (hR.trans (hR.fresh _) (hR.trans (hR.has h2) (VQ r h)))
theorem V7{e:AD}{o l c m:Int}{tx x:lU}{t:T1}(h:FK p s e ln co tx o l c x m k=.ok (t,s')):Rl s s':=by
 unfold FK at h
 split at h
 · cases h
 · rename_i h1
   split at h
   · cases h
   · rename_i h2
     cases h
     exact hR.trans (hR.fresh _) (hR.trans (hp h1) (hR.has h2))
omit hp
theorem S1:∀(k:Nd){s:CS}{e:AD},Rl s (D6 s e k).2.2
 |.nil,_,_=>hR.refl _
 |.cons _ _ _ _ _ _ .nil,_,_=>hR.refl _
 |.cons _ _ _ _ _ _ (.cons o l c x m k r),_,_=>hR.trans (hR.fresh _) (S1 (.cons o l c x m k r))
variable{q:Lo}(hq:tD Rl q)
include hq
theorem OX:∀(k:Nd){s s':CS}{e e':AD}{l:Ty},EG q s e l k=.ok (e',s')→Rl s s'
 |.nil,_,_,_,_,_,h=>by cases h;exact hR.refl _
 |.cons op ln co tx nm k r,s,s',e,e',l,h=>by
   unfold EG at h
   split at h
   · cases h
   · rename_i h1
     split at h
     · cases h
     · rename_i h2
       exact hR.trans (hq h1) (hR.trans (hR.has h2) (OX r h))
theorem OM:∀(k:Nd){s s':CS}{e e':AD}{l:Ty},Ec q s e k=.ok (l,e',s')→Rl s s'
 |.nil,_,_,_,_,_,h=>by cases h;exact hR.refl _
 |.cons op ln co tx nm k r,s,s',e,e',l,h=>by
   unfold Ec at h
   split at h
   · cases h
   · rename_i h1
     split at h
     · cases h
     · rename_i h2
       cases h
       exact hR.trans (hq h1) (OM r h2)
theorem ZB{e:AD}{op:Int}{tx:lU}{t:T1}(h:CC q s e op ln co tx k=.ok (t,e',s')):Rl s s':=by
 unfold CC at h
 repeat' (split at h)
 all_goals first|(cases h;first|exact hR.refl _|exact hR.fresh _|exact hR.trans (QV hR (by assumption)) (OX hR hq _ (by assumption))|exact OM hR hq _ (by assumption))|cases h
omit hq
theorem V3:∀n,tD Rl (Cl n)
 |0=>λh=>by cases h
 |n+1=>λh=>by
   unfold Cl at h
   split at h
   · cases h
   · rename_i h1
     split at h
     · cases h
     · cases h
       exact ZB hR (V3 n) h1
include hp
theorem KK{e:AD}{pt:T1}:∀(k:Nd){s s':CS}{t:Option T1}{u:T1},C6 n p e pt s t k=.ok (u,s')→Rl s s'
 |.nil,_,_,_,_,h=>by unfold C6 at h;cases h;exact hR.refl _
 |.cons _ _ _ _ _ ks r,s,s',t,u,h=>by
   unfold C6 at h
   split at h
   · split at h
     · cases h
     · rename_i h1
       split at h
       · cases h
       · rename_i h2
         split at h
         · cases h
         · rename_i h3
           refine hR.trans (V3 hR _ h1) (hR.trans (hR.has h2) (hR.trans (hp h3) ?_))
           split at h
           · split at h
             · cases h
             · rename_i h4
               exact hR.trans (hR.has h4) (KK r h)
           · exact KK r h
   · cases h
     exact hR.refl _
theorem Z8{e:AD}{op:Int}{tx:lU}{t:T1}(h:Bg n p s e op ln co tx k=.ok (t,s')):Rl s s':=by
 have tr:=@vL.trans _ hR;have hs:=@vL.has _ hR;unfold Bg at h
 by_cases o1:(op==1)=true
 · rw[if_pos o1] at h
   cases h;exact hR.refl _
 rw[if_neg o1] at h
 by_cases o2:(op==2)=true
 · rw[if_pos o2] at h
   cases h;exact hR.refl _
 rw[if_neg o2] at h
 by_cases o3:(op==3)=true
 · rw[if_pos o3] at h
   cases h;exact hR.refl _
 rw[if_neg o3] at h
 by_cases o4:(op==4)=true
 · rw[if_pos o4] at h
   cases h;exact hR.refl _
 rw[if_neg o4] at h
 by_cases o5:(op==5)=true
 · rw[if_pos o5] at h
   exact Z5 hR h
 rw[if_neg o5] at h
 by_cases o6:(op==6)=true
 · rw[if_pos o6] at h
   split at h
   · cases h
   rename_i h1
   split at h
   · cases h
   rename_i h2
   cases h
   exact tr (QV hR h1) (RS hR hp _ h2)
 rw[if_neg o6] at h
 by_cases o7:(op==7)=true
 · rw[if_pos o7] at h
   split at h
   · cases h
     exact hR.refl _
   simp only at h
   split at h
   · cases h
   rename_i h1
   cases h
   exact tr (S1 hR _) (hp h1)
 rw[if_neg o7] at h
 by_cases o8:(op==8)=true
 · rw[if_pos o8] at h
   split at h
   · cases h
     exact hR.refl _
   split at h
   · cases h
   rename_i h1;exact tr (hp h1) (VQ hR hp _ h)
 rw[if_neg o8] at h
 by_cases o9:(op==9)=true
 · rw[if_pos o9] at h
   split at h
   · split at h
     · cases h
     rename_i h1
     split at h
     · cases h
     exact tr (hp h1) (hp h)
   · cases h
     exact hR.refl _
 rw[if_neg o9] at h
 by_cases o10:(op==10)=true
 · rw[if_pos o10] at h
   split at h
   · split at h
     · cases h
     rename_i h1
     split at h
     · cases h
     exact tr (V7 hR hp h1) (hp h)
   · cases h
     exact hR.refl _
 rw[if_neg o10] at h
 by_cases o11:(op==11)=true
 · rw[if_pos o11] at h
   split at h
   · split at h
     · cases h
     rename_i h1
     split at h
     · cases h
     rename_i h2
     split at h
     · cases h
     rename_i h3
     split at h
     · cases h
     rename_i h4
     split at h
     · cases h
     rename_i h5
     cases h
     exact tr (hp h1) (tr (hs h2) (tr (hp h3) (tr (hp h4) (hs h5))))
   · cases h
     exact hR.refl _
 rw[if_neg o11] at h
 by_cases o12:(op==12)=true
 · rw[if_pos o12] at h
   split at h
   · cases h
   rename_i h1
   cases h
   exact Na hR hp _ h1
 rw[if_neg o12] at h
 by_cases o13:(op==13)=true
 · rw[if_pos o13] at h
   split at h
   · cases h
   rename_i h1
   cases h
   exact Na hR hp _ h1
 rw[if_neg o13] at h
 by_cases o14:(op==14)=true
 · rw[if_pos o14] at h
   split at h
   · cases h
     exact hR.refl _
   split at h
   · cases h
   rename_i h1;exact tr (hp h1) (KK hR hp _ h)
 rw[if_neg o14] at h
 by_cases o15:(op==15)=true
 · rw[if_pos o15] at h
   split at h
   · cases h
     exact hR.refl _
   split at h
   · cases h
   rename_i h1;exact tr (hp h1) (KK hR hp _ h)
 rw[if_neg o15] at h
 by_cases o16:(op==16)=true
 · rw[if_pos o16] at h
   split at h
   · cases h
     exact hR.refl _
   split at h
   · cases h
   rename_i h1
   split at h
   · cases h
   rename_i h2
   cases h
   exact tr (hp h1) (tr (hs h2) (hR.fresh _))
 rw[if_neg o16] at h
 split at h
 · cases h
   exact hR.refl _
 exact hp h
omit hp
theorem K4:∀n,vD Rl (BT n)
 |0=>λh=>by cases h
 |n+1=>λh=>by
   unfold BT at h
   split at h
   · cases h
   · rename_i h1
     split at h
     · cases h
     · cases h
       exact Z8 hR (K4 n) h1
end
def yR(s s':CS):Prop:=s'.cons=s.cons∧s'.datas=s.datas∧s'.roots=s.roots∧s'.vars=s.vars
variable {s s':CS}{co ln:Int}
theorem VK{a b:T1}(h:Es s a b ln co=.ok s'):∃m,FC s.sol a b=.ok m∧s'={s with sol:=m}:=by
 unfold Es at h
 split at h
 · cases h
 · cases h
   exact⟨_,by assumption,rfl⟩
theorem J8:vL yR where
 refl _:=⟨rfl,rfl,rfl,rfl⟩
 trans h1 h2:=⟨h2.1.trans h1.1,h2.2.1.trans h1.2.1,h2.2.2.1.trans h1.2.2.1,h2.2.2.2.trans h1.2.2.2⟩
 fresh _:=⟨rfl,rfl,rfl,rfl⟩
 has h:=by obtain⟨m,-,rfl⟩:=VK h;exact⟨rfl,rfl,rfl,rfl⟩
section
variable{s s1 s2:CS}{e e1:AD}{op ln co nm o l c m o2 l2 c2 m2:Int}{tx x x2:lU}{kids k r k2 r2:Nd}{t q:T1}{er:Er}
theorem XI(h:(op==41)=true)(hd:FQ s ln co tx kids=.ok s1):CG s e op ln co tx kids=.ok (none,e,s1):=by unfold CG;rw[if_pos h,hd]
theorem Vh(h:(op==41)=true)(hd:FQ s ln co tx kids=.error er):CG s e op ln co tx kids=.error er:=by unfold CG;rw[if_pos h,hd]
theorem ZG(h:(op==44)=true)(hx:BT (k.size+1) s e o l c x m k=.ok (t,s1))(hw:Ev s1 e tx t (BL (k.size+1) o k) ln co=.ok e1):CG s e op ln co tx (.cons o l c x m k r)=.ok (some (tx,t),e1,s1):=by
 obtain rfl:=beq_iff_eq.1 h;unfold CG;rw[if_neg (by decide)];simp only;rw[if_neg (by decide),if_pos (by decide),hx];simp only;rw[hw]
theorem WC(h:(op==44)=true)(hx:BT (k.size+1) s e o l c x m k=.error er):CG s e op ln co tx (.cons o l c x m k r)=.error er:=by
 obtain rfl:=beq_iff_eq.1 h;unfold CG;rw[if_neg (by decide)];simp only;rw[if_neg (by decide),if_pos (by decide),hx]
theorem W0(h:(op==44)=true)(hx:BT (k.size+1) s e o l c x m k=.ok (t,s1))(hw:Ev s1 e tx t (BL (k.size+1) o k) ln co=.error er):CG s e op ln co tx (.cons o l c x m k r)=.error er:=by
 obtain rfl:=beq_iff_eq.1 h;unfold CG;rw[if_neg (by decide)];simp only;rw[if_neg (by decide),if_pos (by decide),hx];simp only;rw[hw]
theorem YD(h:(op==45)=true)(hx:FK (BT (k.size+1)) s e ln co tx o l c x m k=.ok (t,s1))(hw:Ev s1 e tx t true ln co=.ok e1):CG s e op ln co tx (.cons o l c x m k r)=.ok (some (tx,t),e1,s1):=by
 obtain rfl:=beq_iff_eq.1 h;unfold CG;rw[if_neg (by decide)];simp only;rw[if_neg (by decide),if_neg (by decide),if_pos (by decide),hx];simp only;rw[hw]
theorem XF(h:(op==45)=true)(hx:FK (BT (k.size+1)) s e ln co tx o l c x m k=.error er):CG s e op ln co tx (.cons o l c x m k r)=.error er:=by
 obtain rfl:=beq_iff_eq.1 h;unfold CG;rw[if_neg (by decide)];simp only;rw[if_neg (by decide),if_neg (by decide),if_pos (by decide),hx]
theorem W4(h:(op==45)=true)(hx:FK (BT (k.size+1)) s e ln co tx o l c x m k=.ok (t,s1))(hw:Ev s1 e tx t true ln co=.error er):CG s e op ln co tx (.cons o l c x m k r)=.error er:=by
 obtain rfl:=beq_iff_eq.1 h;unfold CG;rw[if_neg (by decide)];simp only;rw[if_neg (by decide),if_neg (by decide),if_pos (by decide),hx];simp only;rw[hw]
theorem cD(h:(op==46)=true)(hx:BT (k.size+1) s e o l c x m k=.ok (t,s1)):CG s e op ln co tx (.cons o l c x m k r)=.ok (some ([],t),e,s1):=by
 obtain rfl:=beq_iff_eq.1 h;unfold CG;rw[if_neg (by decide)];simp only;rw[if_neg (by decide),if_neg (by decide),if_neg (by decide),hx]
theorem YR(h:(op==46)=true)(hx:BT (k.size+1) s e o l c x m k=.error er):CG s e op ln co tx (.cons o l c x m k r)=.error er:=by
 obtain rfl:=beq_iff_eq.1 h;unfold CG;rw[if_neg (by decide)];simp only;rw[if_neg (by decide),if_neg (by decide),if_neg (by decide),hx]
theorem MQ(h:CB s.datas [] o l c x k=.ok q):Fw s.datas [] (.cons o l c x m k .nil)=.ok q.one:=by
 rw[H7,h];simp only[Fw];cases q <;> rfl
theorem UT(h:(op==43)=true)(hr:s.roots.contains tx=true):CG s e op ln co tx (.cons o l c x m k r)=.error (ln,co,11):=by
 obtain rfl:=beq_iff_eq.1 h;unfold CG;rw[if_neg (by decide)];simp only;rw[if_pos (by decide),if_pos hr]
theorem UA(h:(op==43)=true)(hr:s.roots.contains tx=false)(ht:CB s.datas [] o l c x k=.error er):CG s e op ln co tx (.cons o l c x m k r)=.error er:=by
 obtain rfl:=beq_iff_eq.1 h;unfold CG;rw[if_neg (by decide)];simp only;rw[if_pos (by decide),if_neg (by rw[hr];decide),Jc ht]
theorem Uo(h:(op==43)=true)(hr:s.roots.contains tx=false)(ht:CB s.datas [] o l c x k=.ok q)(hx:BT (k2.size+1) {s with roots:=tx::s.roots} e o2 l2 c2 x2 m2 k2=.error er):CG s e op ln co tx (.cons o l c x m k (.cons o2 l2 c2 x2 m2 k2 r2))=.error er:=by
 obtain rfl:=beq_iff_eq.1 h;unfold CG;rw[if_neg (by decide)];simp only;rw[if_pos (by decide),if_neg (by rw[hr];decide),MQ ht];simp only;rw[hx]
theorem TV(h:(op==43)=true)(hr:s.roots.contains tx=false)(ht:CB s.datas [] o l c x k=.ok q)(hx:BT (k2.size+1) {s with roots:=tx::s.roots} e o2 l2 c2 x2 m2 k2=.ok (t,s1))(hh:Es s1 q t ln co=.error er):CG s e op ln co tx (.cons o l c x m k (.cons o2 l2 c2 x2 m2 k2 r2))=.error er:=by
 obtain rfl:=beq_iff_eq.1 h;unfold CG;rw[if_neg (by decide)];simp only;rw[if_pos (by decide),if_neg (by rw[hr];decide),MQ ht];simp only;rw[hx];simp only;rw[show q.one.hd=q by cases q <;> rfl,hh]
theorem Xz(h:(op==43)=true)(hr:s.roots.contains tx=false)(ht:CB s.datas [] o l c x k=.ok q)(hx:BT (k2.size+1) {s with roots:=tx::s.roots} e o2 l2 c2 x2 m2 k2=.ok (t,s1))(hh:Es s1 q t ln co=.ok s2) :
   CG s e op ln co tx (.cons o l c x m k (.cons o2 l2 c2 x2 m2 k2 r2))=.ok (some (tx,.con CA q.one),⟨tx,.con CA q.one,[]⟩::e,s2):=by
 obtain rfl:=beq_iff_eq.1 h;unfold CG;rw[if_neg (by decide)];simp only;rw[if_pos (by decide),if_neg (by rw[hr];decide),MQ ht];simp only;rw[hx];simp only;rw[show q.one.hd=q by cases q <;> rfl,hh]
end
def IF(w:World)(f:Fq)(l:List (lU×lU))(a:Option Addr)(c:Nat):Prop:=l.length≤c∧(l=[]∨∃b off,a=some ⟨b,off,none⟩∧Cs w f b off (bC l))
variable {X:Cx}{f:Fq}{Fs:List (World→Fq→Prop)}{B:List FB}{H:List HB}{a:Option Addr}{T:TypeId}{w:World}
theorem IF.mono{l:List (lU×lU)}{c:Nat}:Gf (λw f=>IF w f l a c):=λ_ _ _ _ h hF=>⟨h.1,h.2.imp id λ⟨b,off,h1,h2⟩=>⟨b,off,h1,h2.mono hF⟩⟩
def WJ(nds:Nd)(w:World)(f:Fq)(v:Value)(w':World):Prop:=∃f',CD (λ_=>False) w f w' f' ∧
 match Ce nds with
 |.error er=>v=.tuple #[.slice none 0 0,.agg #[.int .i64 er.1,.int .i64 er.2.1],.int .i64 er.2.2]
 |.ok bs=>∃a c,v=.tuple #[.slice a bs.length c,.agg #[.int .i64 0,.int .i64 0],.int .i64 0]∧IF w' f' bs a c
def Qj(l:List (lU×lU))(r:List (lU×T1)):List (lU×lU):=l++Tz r
theorem Wy{s:CS}{n:lU}{t f:T1}{r:List (lU×T1)}{d:List (lU×lU)}(h:Eu s t 0 0=.ok f) :
   (match EY s ((n,t)::r) with|.error x=>.error x|.ok l=>.ok (d++l):RI (List (lU×lU)))=(match EY s r with|.error x=>.error x|.ok l=>.ok ((d++[(n,JR f)])++l)):=by
 rw[EY,h];simp only
 cases EY s r with
 |error x=>rfl
 |ok z=>simp
theorem T7{s:CS}{r:List (lU×T1)}:EY s r=(match EY s r with|.error x=>.error x|.ok l=>.ok ([]++l)):=by
 cases EY s r <;> rfl
theorem aZ{s:CS}{n:lU}{t:T1}{r:List (lU×T1)}{er:Er}(h:Eu s t 0 0=.error er):EY s ((n,t)::r)=.error er:=by rw[EY,h]
theorem Xr{d:List (lU×lU)}{n y:lU}{t:T1}{r:List (lU×T1)}:Ej (bC (Qj d ((n,t)::r))) (d.length*2+1) [S y]=bC (Qj (d++[(n,y)]) r):=by
 unfold Qj;rw[bC_app,bC_app,bC_app];have hl:=YS d;rw[← hl];generalize bC d=D;simp[Ej,Tz,bC,List.set_append_right]
theorem Ra{a:lU}:∀l:List lU,(Fp (l.map λk=>(k,Value.bool true)) a).getD (.bool false)=.bool (l.contains a)
 | []=>rfl
 |b::l=>by
   simp only[List.map_cons,Fp,List.contains_cons]
   by_cases h:a=b
   · subst h;simp
   · rw[show (a==b)=false from beq_eq_false_iff_ne.2 h]
     simpa using Ra l
theorem DD.addRoot{s:CS}(h:DD s){a:lU}(hn:s.roots.contains a=false):DD {s with roots:=a::s.roots} :=
 {h with
   dr:=⟨by
     have:∀l:List lU,l.contains a=false→Fp (l.map λk=>(k,Value.bool true)) a=none:=by
       intro l
       induction l with
       |nil=>intro _;rfl
       |cons b l ih =>
         intro hc;rw[List.contains_cons,Bool.or_eq_false_iff] at hc;simp only[List.map_cons,Fp];rw[hc.1];simpa using ih hc.2
     exact this _ hn,h.dr⟩}
theorem FD{nds:Nd}{er:Er}(h:BH Ll DA nds []=.error er):Ce nds=.error er:=by rw[Ce,h]
theorem oF{nds:Nd}{out:List (lU×T1)}{s:CS}(h:BH Ll DA nds []=.ok (out,s)):Ce nds=EY s out:=by rw[Ce,h]
theorem mN{R:List RB}{c:Nat}{l:List (lU×lU)}(hM:AO X w f H (⟨T,2,a,c,l.length,bC l⟩::R) B Fs):∃f',AO X w f' H R B Fs∧IF w f' l a c:=by
 have hr:=hM.row _ (.head _);rcases hr.2 with ⟨_,_,hz⟩|⟨b,q,ha,hb,hmc,_,hq,ht⟩
 · simp only at hz
   exact⟨f,hM.less (List.Sublist.refl _) (List.sublist_cons_self _ _) (λ_ h=>h) (λ_ h=>h),oM,.inl (by cases l with|nil=>rfl|cons _ _=>simp at hz)⟩
 · simp only at ha
   subst ha;obtain⟨f',hM'⟩:=hM.done (i:=0) rfl rfl;refine⟨f',hM'.less (List.Sublist.refl _) (List.Sublist.refl _) (λ_ h=>.tail _ h) (λ_ h=>h),hmc,.inr ⟨b,0,rfl,hM'.fro _ (.head _)⟩⟩
end Go.SP
namespace Go.Proofs.YtkahkniflkadoaaGreatDoor
open Go.SW Go.SP Go.RowKit Go.Proofs.Tryz
theorem Z9:∀i,i≤8→DD (⟨[],0,XO i,[],[],-1⟩:CS)
 |0,_=>⟨tQ,λ_ _ h=>(by cases h),tQ,tQ,tQ,Int.le_refl _⟩
 |i+1,h=>by
  obtain⟨⟨nm,dt,nu,ar⟩,hx⟩:∃v,HG[i]?=some v:=⟨_,List.getElem?_eq_getElem (l:=HG) (by have:HG.length=8:=rfl;omega)⟩;have har:=S7 hx;rw[Og hx];exact (Z9 i oM).addCons (No i oM _ hx) ⟨by rw[KO];dsimp only;omega,MU _,CT (QZ hx),Nat.zero_le _⟩
theorem wJ:DD Ll:=Z9 8 (Nat.le_refl _)
theorem uP:FM DA:=by
 rw[← R5];intro b hb;unfold GY at hb;rw[List.take_length,List.mem_reverse] at hb;obtain⟨p,hp,rfl⟩:=List.mem_map.1 hb;exact⟨IB (Gr (Bu _)) (N4 p hp),by dsimp only[PM];decide⟩
theorem XA(w:World)(f:Fq)(hv:Vl w f)(tx:lU)(t:T1)(b:Nat)(hT:Ai w f t.one (some ⟨b,0,none⟩) 1) :
  B3 prog 20 #[S tx,.slice (some ⟨b,0,none⟩) 1 1] w (BO (α:=Option Addr×Nat) (λx=>tV (.con tx t.one) x.1 x.2) (λ_=>True) (λx=>[λw f=>Ai w f t.one x.1 x.2]) w f):=by
 have hl:t.one.len=1:=by cases t <;> rfl
 have h:=CN w f hv tx t.one (some ⟨b,0,none⟩) 1 (by rw[hl];decide) hT;rwa[hl] at h
variable {σ:Bj}{f f':Fq}{a:Option Addr}{v2 v4 x3 y3:Value}{w w':World}
theorem Mb{nds:Nd}{b2 b3 b4:Nat}(hn:b2≠b3∧b2≠b4∧b3≠b4){fn:Func}(hr:fn.results=#[.cell 2 23,.cell 3 25,.cell 4 26])(h2:σ 2=some (pB b2))(h3:σ 3=some (pB b3))(h4:σ 4=some (pB b4)){er:Er}(hm:Ce nds=.error er)(hE:CD (λ_=>False) w f w' f')
  (k2:AM w' b2 [v2] 23∧f' b2=0∧(true=true→w.heap.size≤b2)) (k3:AM w' b3 [x3,y3] 25∧f' b3=0∧(true=true→w.heap.size≤b3)) (k4:AM w' b4 [v4] 26∧f' b4=0∧(true=true→w.heap.size≤b4))
  (tmps:Array Value) (ht:∀t,t∈[2,3,4]→∀v,σ t=some v→tmps.getD t undef=v):Leaves prog fn tmps (λe w'=>∃v,e=.returned v∧WJ nds w f v w') [{target:=.fn (.func 13) ([pB b2,pB b3,pB b4]:List Value).toArray,args:=#[]}] (.panicking (trI 46 er)) w':=by
 refine F4 (by simp) bH (TL w' f' hE.val b2 b3 b4 v2 x3 y3 v4 k2.1 k3.1 k4.1 ⟨k2.2.1,k3.2.1,k4.2.1⟩ hn er) λwz hz=>?_;rw[JX];obtain⟨f3,e3,z2,z3,z4⟩:=hz;refine BS (σ:=AF (E2 2 (pB b2) 3 (pB b3)) 4 (pB b4)) (λt v hv=>?_) (Ed hr (Bp rfl XY z2 rfl) (Ae rfl GH z3 rfl) (Bp rfl HT z4 rfl)) ⟨_,rfl,f3,CD.trans0 hE e3 (λb hb=>?_),by rw[hm]⟩
 ·
  by_cases e4:t=4
  · subst e4;exact ht 4 (by simp) v (h4.trans hv)
  by_cases e5:t=3
  · subst e5;exact ht 3 (by simp) v (h3.trans hv)
  by_cases e2:t=2
  · subst e2;exact ht 2 (by simp) v (h2.trans hv)
  have n4:Nat.beq t 4=false:=by cases h:Nat.beq t 4 with|false=>rfl|true=>exact absurd (Nat.eq_of_beq_eq_true h) e4
  have n3:Nat.beq t 3=false:=by cases h:Nat.beq t 3 with|false=>rfl|true=>exact absurd (Nat.eq_of_beq_eq_true h) e5
  have n2:Nat.beq t 2=false:=by cases h:Nat.beq t 2 with|false=>rfl|true=>exact absurd (Nat.eq_of_beq_eq_true h) e2
  simp[AF,Go.SW.e0,n2,n3,n4] at hv
 ·
  rcases hb with rfl|rfl|rfl
  · exact k2.2.2 rfl
  · exact k3.2.2 rfl
  · exact k4.2.2 rfl
theorem qE{nds:Nd}{b2 b3 b4:Nat}{fn:Func}(hr:fn.results=#[.cell 2 23,.cell 3 25,.cell 4 26])(h2:σ 2=some (pB b2))(h3:σ 3=some (pB b3))(h4:σ 4=some (pB b4)){bs:List (lU×lU)}(hm:Ce nds=.ok bs)(hE:CD (λ_=>False) w f w' f'){c:Nat}(hB:IF w' f' bs a c)
  (k2:AM w' b2 [.slice a bs.length c] 23) (k3:AM w' b3 [iV 0,iV 0] 25) (k4:AM w' b4 [iV 0] 26)
  (tmps:Array Value) (ht:∀t v,σ t=some v→tmps.getD t undef=v):Leaves prog fn tmps (λe w'=>∃v,e=.returned v∧WJ nds w f v w') [{target:=.fn (.func 13) ([pB b2,pB b3,pB b4]:List Value).toArray,args:=#[]}] .returning w':=by
 refine F4 (by simp) bH (SY w' b2 b3 b4) λwz hz=>?_;have e3:=CD.of_ext hz hE.val;refine BS ht (Ed hr (Bp h2 XY (k2.ext hz) rfl) (Ae h3 GH (k3.ext hz) rfl) (Bp h4 HT (k4.ext hz) rfl)) ⟨_,rfl,f',CD.trans0 hE e3 (λb hb=>hb.elim),?_⟩;rw[hm];exact⟨a,c,rfl,IF.mono _ _ _ _ hB (e3.fle hE.val (λ_ h=>h.elim))⟩
set_option maxHeartbeats 2000000 in
theorem UZ(w:World)(f:Fq)(hv:Vl w f)(hG:Fg w f)(nds:Nd)(na:Option Addr)(nc:Nat)(hwt:nds.wft)(hsz:nds.size≤200000)(htb:nds.txb)(hN:AU w f nds na nc) :
  B3 prog 7 #[.slice na nds.len nc] w (WJ nds w f):=by
 have hkl0:=Nd.len_le nds;refine oO (K:=[2,3,4]) (X:=X0 w f) (H:=[]) (R:=[]) (B:=[]) (Fs:=[λw f=>AU w f nds na nc,λw f=>Fg w f]) (f:=f) func7 rfl rfl rfl (Cz hv ⟨hN,hG,tQ⟩ ⟨AU.mono,Fg.mono,tQ⟩)<|Aa 8 [] (λb1=>λb2=>λb3=>λ_=>JU (p:=b1≠b2∧b1≠b3∧b2≠b3) (λw f hM=>by have h9:=hM.nd;simp[CM] at h9;exact⟨λe=>h9.2 e.symm,λe=>h9.1.2 e.symm,λe=>h9.1.1 e.symm⟩) λhn=>Aa 1 [] (λ_=>Fm rfl rfl (λw f hM=>Va rfl)<|xX rfl rfl<|Aa 4 [] (λ_=>cY (XX:=λ_ _=>False) rfl rfl (eC nI rfl rfl) (λw f hM=>(UW w f hM.vl hM.f1).retP) (λ_=>As.stab) (λ_=>⟨AJ.mono,tQ⟩) (λ_ _ _ _ _ h=>h.elim) ?_)));rintro⟨A,ea⟩ hA;dsimp only at hA ⊢;refine Aa 21 [] (λ_=>QP 30 2<|QP 55 4 ?_);refine GC (α:=Nat×Nd×List (lU×T1)×List Value×Option Addr×Nat×Option Addr×Nat×AD×Option Addr×CS) (λx=>x.2.1.len) (λx=>x.1+x.2.1.len=nds.len∧BH Ll DA nds []=BH x.2.2.2.2.2.2.2.2.2.2 x.2.2.2.2.2.2.2.2.1 x.2.1 x.2.2.1∧x.2.2.1.length≤x.1∧(Fx x.2.2.1).bnd∧FM x.2.2.2.2.2.2.2.2.1∧x.2.1.wft∧x.2.1.txb∧DD x.2.2.2.2.2.2.2.2.2.2∧x.2.1.size≤nds.size∧x.2.2.2.2.2.2.2.2.2.2.fresh+200002*x.2.1.size≤200002*nds.size∧x.2.1.size-(nds.size:Int)-1≤x.2.2.2.2.2.2.2.2.2.2.vars∧x.2.2.2.2.2.2.2.2.2.2.vars≤0) (λx=>(E9 2 (pB b1) 3 (pB b2) 4 (pB b3) 5 (pB A.cb) 6 (.pointer x.2.2.2.2.2.2.2.2.2.1) 7 (.slice x.2.2.2.2.1 x.2.2.1.length x.2.2.2.2.2.1) 19 (.slice na nds.len nc) 20 (iV (nds.len:Int)) 21 (iV (x.1:Int)))) (λx=>⟨λ_=>False,Bz A,As 63 128 A x.2.2.2.2.2.2.2.2.2.2,w,f⟩) (λx=>[⟨b3,[iV 0],26,true⟩,⟨b2,[iV 0,iV 0],25,true⟩,⟨b1,[.slice x.2.2.2.2.2.2.1 x.2.2.1.length x.2.2.2.2.2.2.2.1],23,true⟩]) (λx=>[⟨55,4,x.2.2.2.2.1,x.2.2.2.2.2.1,x.2.2.1.length,x.2.2.2.1⟩,⟨30,2,x.2.2.2.2.2.2.1,x.2.2.2.2.2.2.2.1,x.2.2.1.length,bC (Tz x.2.2.1)⟩]) (λx=>[]) (λx=>[λw f=>Bt w f na x.1 x.2.1,λw f=>Bi w f (Fx x.2.2.1) x.2.2.2.1,λw f=>AJ w f x.2.2.2.2.2.2.2.2.1 x.2.2.2.2.2.2.2.2.2.1,λw f=>Fg w f]) (0,nds,[],[],none,0,none,0,DA,ea,Ll) ⟨Nat.zero_add _,rfl,Nat.le_refl _,tQ,uP,hwt,htb,wJ,Nat.le_refl _,by dsimp only[Ll];omega,by dsimp only[Ll];omega,(by decide:(-1:Int)≤0)⟩ lE (λw f hM=>hM.more (B':=[]) (F':=[λw f=>Bt w f na 0 nds,λw f=>Bi w f .nil []]) nE (AI.mem ⟨AU.at hM.f1,rfl,tQ⟩) (Az.mem ⟨Bt.mono,Bi.mono,tQ⟩) |>.less sR sR nE (mR [0,1,2,4])) ?_;rintro⟨i,r,out,txs,ta,tc,oa,oc,e,ea,s⟩ ⟨hi,hti,hol,htyb,heB,hwt2,htx,hw,hrs,hfr,hv1,hv2⟩;dsimp only at hi hti hol htyb heB hwt2 htx hw hrs hfr hv1 hv2 ⊢;refine Aa 6 [] (λ_=>AZ 22 rfl rfl (λh1=>?_) (λh1=>?_));refine Aa 6 [] (λ_=>?_);have hil:i<nds.len:=by have:=of_decide_eq_true h1;omega
 obtain⟨op2,ln2,co2,tx2,nm2,k2,r,rfl⟩:=Nd.cases1 r oM;have hi2:i+(r.len+1)=nds.len:=hi;obtain⟨htx2,hkx2,hrx2⟩:=htx;have hrs2:k2.size+r.size+1≤nds.size:=hrs;have hfr2:s.fresh+200002*((k2.size+r.size+1:Nat):Int)≤200002*nds.size:=hfr;have hv3:((k2.size+r.size+1:Nat):Int)-nds.size-1≤s.vars:=hv1;have hkl:=Nd.len_le k2;have hfr0:=hw.fr;refine Jp 0 rfl ?_;rintro⟨eb,eo,ka,kc⟩ rfl;refine Aa 26 [100,0,0,1] (aI oM<|y2<|λb4=>y<|λb5=>y<|λ_=>AZ 27 rfl rfl (λh2=>?_) (λh2=>?_));refine Aa 5 [1] (y<|λ_=>XT rfl rfl (eC jS rfl rfl) (λ_ h=>h) (λw f hM=>Wx w f hM.vl A hA s hM.res hM.mz hw hM.f5 op2 ln2 co2 nm2 tx2 k2 ka kc oM htx2 hkx2 hM.f0 oM hv2) (λ_=>As.stab) (λ_=>trivial) (λer w2 f2 he hE hH=>Mb hn rfl rfl rfl rfl (FD (hti.trans (DC (Vh h2 he)))) hE (hH _ Y3) (hH _ Vj) (hH _ Wj)) ?_);rintro s5 ⟨hda,hw5,hfr5,hvv5,hvw5⟩;dsimp only at hda hw5 hfr5 hvv5 hvw5 ⊢;exact Aa 11 [] (aI ⟨oM,oM⟩<|λ_=>DF ((i+1,r,out,txs,ta,tc,oa,oc,e,ea,s5)) (show r.len<r.len+1 from Nat.lt_succ_self _) ⟨show i+1+r.len=_ by omega,hti.trans (TG (XI h2 hda)),show out.length≤i+1 by omega,htyb,heB,hwt2.2,hrx2,hw5,show r.size≤_ by omega,show s5.fresh+200002*(r.size:Int)≤_ by omega,show (r.size:Int)-nds.size-1≤s5.vars by omega,show s5.vars≤0 by omega⟩ lE (λw f hM=>⟨_,hM.less (sD (sD (sK (sK (sK sZ))))) sR nE (mR [1,3,4,5])⟩));refine Aa 7 [] (λ_=>AZ 32 rfl rfl (λh3=>?_) (λh3=>?_));refine Aa 2 [] (λ_=>?_);have hwk:k2.wfm 2:=by rcases hwt2.1 with h9|⟨h9,h8⟩|⟨h9,h8⟩ <;> first|exact h8|(exfalso;have:=beq_iff_eq.1 h3;omega)
 obtain⟨op3,ln3,co3,tx3,nm3,k3,r3,hkk⟩:=C8 hwk dC;have hwk2:r3.wfm 3:=by have h9:=hwk;rw[hkk] at h9;exact h9
 obtain⟨op4,ln4,co4,tx4,nm4,k4,r4,rfl⟩:=C8 hwk2 dC;rw[WL] at hwk2;have hks2:(Nd.cons op4 ln4 co4 tx4 nm4 k4 r4).size=k4.size+r4.size+1:=rfl;have hkl3:(Nd.cons op4 ln4 co4 tx4 nm4 k4 r4).len=r4.len+1:=rfl;have hkx3:tx3.length≤100000∧k3.txb:=by have h9:=hkx2;rw[hkk] at h9;exact⟨h9.1,h9.2.1⟩
 have hks:k2.size=k3.size+(Nd.cons op4 ln4 co4 tx4 nm4 k4 r4).size+1:=by rw[hkk];rfl
 have hkl2:k2.len=(Nd.cons op4 ln4 co4 tx4 nm4 k4 r4).len+1:=by rw[hkk];rfl
 refine ZQ 0 rfl hkk<|Jp 0 rfl ?_;rintro⟨eb3,eo3,ka3,kc3⟩ rfl;refine Jp 1 rfl ?_;rintro⟨eb4,eo4,ka4,kc4⟩ h44;obtain⟨rfl,rfl⟩:eb3=eb4∧eo3=eo4:=by cases h44;exact⟨rfl,rfl⟩
 refine Xu [2,3,4] (λw=>AM w A.cb [pB A.sb,.map (some A.km),.map (some A.dm),.map (some A.rm),iV s.vars] 63∧Ch C4 w A.rm (s.roots.map λk=>(k,.bool true))) (λw f h _=>⟨h.blk,h.roots⟩) [0,1,2,3,4] Aq (rd [0,1,2,3,4,5,6,7,8,9] (.br 10 .fin .fin)) rfl kR kR kR rfl EE<|A6 3 [] (λ_=>Hm rfl rfl rfl (λw hK=>Al rfl iG hK.2.2.1 rfl)<|A6 2 [1] (y<|λ_=>Hm rfl rfl rfl (λw hK=>Nk (K:=C4) (a:=tx2) rfl rfl Vo Ha fB hK.2.2.2 hw.dr (Ra s.roots))<|A6 3 [1] (y<|λ_=>Ag rfl ?_ Aj)));refine XT (α:=Unit) (val:=λ_=>.tuple #[]) (q:=λ_=>(!s.roots.contains tx2)=true) (I':=λ_=>As 63 128 A s) (F':=λ_=>[]) (pe:=λer=>(!s.roots.contains tx2)=false∧er=(ln2,co2,11)) (M:=λ_=>False) (T:=46) rfl rfl (eC E0 rfl rfl) (λ_ h=>h.elim) (λw f hM=>(Cp w f hM.vl (!s.roots.contains tx2) ln2 co2).mono (λ_ _ ⟨x,f2,h1,h2,h3,h4⟩=>⟨x,f2,h1,h2,h3.mono (λ_ h=>h.elim),(hM.call0 h3).res,h4⟩) λ_ _ h=>h) (λ_=>As.stab) (λ_=>trivial) (λer w2 f2 he hE hH=>Mb hn rfl rfl rfl rfl (FD (hti.trans (DC (by obtain⟨h9,rfl⟩:=he;rw[hkk];exact UT h3 (FO h9))))) hE (hH _ Y3) (hH _ Vj) (hH _ Wj)) ?_;rintro⟨⟩ hnd;replace hnd:s.roots.contains tx2=false:=Fv hnd;refine Aa 1 [] (λ_=>Be [0,1,2,3,4] (λw f h _=>⟨h.blk,h.roots⟩) rfl (λ_ h=>h)<|Bo<|Aa 2 [] (λ_=>Xu [2,3,4] (λw=>AM w A.cb [pB A.sb,.map (some A.km),.map (some A.dm),.map (some A.rm),iV s.vars] 63) (λw f h _=>h.blk) [0,1,2,3,4] Aq (rd [0,1,2,3,4,5] (.br 6 .fin .fin)) rfl kR kR kR rfl EE<|A6 3 [] (λ_=>Hm rfl rfl rfl (λw hK=>Al rfl iG hK.2.2 rfl)<|A6 2 [1] (y<|λ_=>Ag rfl ?_ Aj))));refine sH (a:=tx2) hA hw rfl rfl rfl rfl Vo Ha hnd ?_;have hwr:=hw.addRoot hnd;refine Aa 1 [] (λ_=>Be [0,1,2,3,4] (λw f h _=>h.blk) rfl (λ_ h=>h)<|Bo<|Aa 8 [1,101,0] (y<|aI oM<|y2<|λ_=>XT (α:=T1×Option Addr×Nat) (val:=λx=>tV x.1 x.2.1 x.2.2) (q:=λx=>CB s.datas [] op3 ln3 co3 tx3 k3=.ok x.1∧x.1.bnd) (I':=λ_=>As 63 128 A ({s with roots:=tx2::s.roots}:CS)) (F':=λx=>[λw f=>Ai w f x.1.kids x.2.1 x.2.2]) (pe:=λer=>CB s.datas [] op3 ln3 co3 tx3 k3=.error er) (M:=λ_=>False) (T:=46) rfl rfl (eC NO rfl rfl) (λ_ h=>h.elim) (λw f hM=>(KC (k3.size+1) w f hM.vl A ({s with roots:=tx2::s.roots}:CS) hM.res hwr hM.f10 op3 ln3 co3 nm3 tx3 k3 ka3 kc3 (.map none) [] (Nat.lt_succ_self _) oM hkx3.1 hkx3.2 (.inl ⟨rfl,rfl⟩) hM.f2).mono (λ_ _ ⟨x,f2,h1,h2,h3,h4⟩=>⟨x,f2,h1,h2,h3.mono (λ_ h=>h.elim),(hM.call0 h3).res,h4⟩) λ_ _ h=>h) (λ_=>As.stab) (λ_=>⟨Ai.mono,tQ⟩) (λer w2 f2 he hE hH=>Mb hn rfl rfl rfl rfl (FD (hti.trans (DC (by rw[hkk];exact UA h3 hnd he)))) hE (hH _ Y3) (hH _ Vj) (hH _ Wj)) ?_));rintro⟨q5,qa,qc⟩ ⟨hp5,hqb⟩;dsimp only at hp5 hqb ⊢;refine Aa 5 [0] (λb6=>y<|λ_=>Xu [2,3,4] (λ_=>True) ER [0,1,2,3,4,5] Aq (rd [0,1,2,3,4,5,6,7,9,10] (.br 8 (.br 11 .fin .fin) .fin)) rfl kR kR kR rfl EE<|A6 10 [0,2,100,0,2] (y<|y<|aI oM<|y2<|y<|λ_=>Ag rfl ?_ Aj))
 refine XT rfl rfl (eC CI rfl rfl) (λ_ h=>h) (λw f hM=>IL (k4.size+1) w f hM.vl A hA ({s with roots:=tx2::s.roots}:CS) hM.res hM.mz hwr op4 ln4 co4 nm4 tx4 k4 ka4 kc4 e ea (Nat.lt_succ_self _) oM hwk2 hM.f1 heB hM.f10 (by first|omega|(dsimp only;omega))) (λ_=>As.stab) (λ_=>⟨Ai.mono,tQ⟩) (λer w2 f2 he hE hH=>Mb hn rfl rfl rfl rfl (FD (hti.trans (DC (by rw[hkk];exact Uo h3 hnd hp5 he)))) hE (hH _ wE) (hH _ Y3) (hH _ Vj)) ?_;rintro⟨⟨t6,t6a,t6c⟩,s6⟩ ⟨hp6,htb6,hw6,hf6⟩;dsimp only at hp6 htb6 hw6 hf6 ⊢;have hfm6:=K4 J8 _ hp6;have hvv6:s6.vars=s.vars:=hfm6.2.2.2;refine Aa 1 [] (λ_=>Ax [0,1,2,3,4,5] rfl<|Ag rfl ?_ Aj);refine XT rfl rfl (eC Gc rfl rfl) (λ_ h=>h) (λw f hM=>CZ w f hM.vl A hA s6 hM.res hM.mz hw6 q5 t6 qa qc t6a t6c hqb htb6 hM.f1 hM.f0 ln2 co2) (λ_=>As.stab) (λ_=>trivial) (λer w2 f2 he hE hH=>Mb hn rfl rfl rfl rfl (FD (hti.trans (DC (by rw[hkk];exact TV h3 hnd hp5 hp6 he)))) hE (hH _ wE) (hH _ Y3) (hH _ Vj)) ?_;rintro s7 ⟨hh7,hw7,hf7⟩;have hvv7:s7.vars=s.vars:=(J8.has hh7).2.2.2.trans hvv6;refine Aa 1 [] (λ_=>Ax [0,1,2,3,4,5] rfl<|Bo<|Aa 5 [0] (y<|λb7=>λ_=>CY 0 rfl rfl<|By (α:=Option Addr×Nat) rfl rfl (eC Br rfl rfl) (λw f hM=>XA w f hM.vl CA q5 b7 (Da (l:=[(q5,qa,qc)]) ⟨hM.f1,tQ⟩ hM.b0)) (λ_=>⟨Ai.mono,tQ⟩) ?_));rintro⟨ua,uc⟩ -;refine Aa 11 [1,2,1,2] (y<|y<|y<|y<|λ_=>?_);have hub:(T1.con CA q5.one).bnd:=Dm dC (by rw[T1.one,T1.len_cons];simp only[Ty.len];omega) (Gr hqb);refine XT rfl rfl (eC HY rfl rfl) (λ_ h=>h) (λw f hM=>DW w f hM.vl A hA s7 hM.res hM.mz hw7 e ea heB hM.f12 tx2 (T1.con CA q5.one) ua uc hub hM.f0 false ln2 co2) (λ_=>As.stab) (λ_=>⟨AJ.mono,tQ⟩) (λer w2 f2 he hE hH=>Mb hn rfl rfl rfl rfl (by cases he) hE (hH _ wE) (hH _ Y3) (hH _ Vj)) ?_;rintro⟨e7,ea7⟩ ⟨he7,heB7⟩;dsimp only at he7 heB7 ⊢;have hee:e7=⟨tx2,.con CA q5.one,[]⟩::e:=by cases he7;rfl
 subst hee;refine Aa 11 [5,2] (y<|y<|λb8=>λ_=>D4 1 0 rfl rfl VO rfl rfl rfl rfl rfl rfl rfl rfl (λ_ _=>rfl) oM oM λoa2 oc2=>Aa 7 [6,2] (y<|y<|λb9=>λ_=>D4 0 0 rfl rfl Df rfl rfl rfl rfl rfl rfl rfl rfl (λ_ _=>rfl) oM oM λta2 tc2=>Aa 8 [] (aI ⟨oM,oM⟩<|λ_=>?_)));exact DF ((i+1,r,(out++[(tx2,(T1.con CA q5.one))]),txs++tC (T1.con CA q5.one) ua uc,ta2,tc2,oa2,oc2,(⟨tx2,.con CA q5.one,[]⟩::e),ea7,s7)) (show r.len<r.len+1 from Nat.lt_succ_self _) ⟨show i+1+r.len=_ by omega,hti.trans (Ir (by rw[hkk];exact Xz h3 hnd hp5 hp6 hh7)),show (out++[(tx2,(T1.con CA q5.one))]).length≤i+1 by rw[List.length_append];simp;omega,show (Fx (out++[(tx2,(T1.con CA q5.one))])).bnd by rw[DZ];exact Ty.bnd_snoc htyb hub,heB7,hwt2.2,hrx2,hw7,show r.size≤_ by omega,show s7.fresh+200002*(r.size:Int)≤_ by omega,show (r.size:Int)-nds.size-1≤s7.vars by omega,show s7.vars≤0 by omega⟩ (jH rfl rfl rfl rfl rfl (Eq.trans (b:=some (Value.slice ta2 (out.length+1) tc2)) rfl (by dsimp only;rw[List.length_append];rfl)) rfl rfl rfl) (λw f hM=>⟨_,by have hM9:=(hM.more (B':=[]) (F':=[λw f=>Bi w f (Fx (out++[(tx2,(T1.con CA q5.one))])) (txs++tC (T1.con CA q5.one) ua uc)]) nE (AI.mem ⟨by rw[DZ];exact Bi.snoc hM.f1 hM.f12,tQ⟩) (Az.mem ⟨Bi.mono,tQ⟩)).less (sD (sD (sD (sD (sD (sK (sK (sK sZ)))))))) sR (B':=[]) nE (F':=[λw f=>Bt w f (some ⟨eb,eo,none⟩) (i+1) r,λw f=>Bi w f (Fx (out++[(tx2,(T1.con CA q5.one))])) (txs++tC (T1.con CA q5.one) ua uc),λw f=>AJ w f (⟨tx2,.con CA q5.one,[]⟩::e) ea7,λw f=>Fg w f]) (mR [11,0,1,15]);dsimp only;rw[show (out++[(tx2,(T1.con CA q5.one))]).length=out.length+1 by rw[List.length_append];rfl,show bC (Tz (out++[(tx2,(T1.con CA q5.one))]))=bC (Tz out)++[S tx2,S []] by rw[Tz,List.map_append,SP.bC_app];rfl];exact hM9⟩);refine Aa 7 [] (λ_=>AZ 80 rfl rfl (λh4=>?_) (λh4=>?_));refine Aa 2 [] (λ_=>?_);have hwk:k2.wfm 3:=by rcases hwt2.1 with h9|⟨h9,h8⟩|⟨h9,h8⟩ <;> first|exact h8|(exfalso;have:=beq_iff_eq.1 h4;omega)
 obtain⟨op3,ln3,co3,tx3,nm3,k3,r3,hkk⟩:=C8 hwk dC;have hwk1:G4 op3 k3:=by have h9:=hwk;rw[hkk] at h9;exact h9
 have hks:k2.size=k3.size+r3.size+1:=by rw[hkk];rfl
 have hkl2:k2.len=r3.len+1:=by rw[hkk];rfl
 refine ZQ 0 rfl hkk<|Jp 0 rfl ?_;rintro⟨eb3,eo3,ka3,kc3⟩ rfl;refine Aa 7 [1,100,0] (y<|aI oM<|y2<|λ_=>XT rfl rfl (eC CI rfl rfl) (λ_ h=>h) (λw f hM=>IL (k3.size+1) w f hM.vl A hA s hM.res hM.mz hw op3 ln3 co3 nm3 tx3 k3 ka3 kc3 e ea (Nat.lt_succ_self _) oM hwk1 hM.f0 heB hM.f7 (by first|omega|(dsimp only;omega))) (λ_=>As.stab) (λ_=>⟨Ai.mono,tQ⟩) (λer w2 f2 he hE hH=>Mb hn rfl rfl rfl rfl (FD (hti.trans (DC (by rw[hkk];exact WC h4 he)))) hE (hH _ Y3) (hH _ Vj) (hH _ Wj)) ?_);rintro⟨⟨t6,t6a,t6c⟩,s6⟩ ⟨hp6,htb6,hw6,hf6⟩;dsimp only at hp6 htb6 hw6 hf6 ⊢;have hfm6:=K4 J8 _ hp6;have hvv6:s6.vars=s.vars:=hfm6.2.2.2;refine Aa 3 [0] (y<|λ_=>Xu [2,3,4] (λ_=>True) ER [0,1,2,3,4] Aq (rd [0,1,2,3,4,5,6,7,8,10,11] (.br 9 (.br 12 (.rd 13 .fin) .fin) .fin)) rfl kR kR kR rfl EE<|A6 11 [1,0,1,100,0,1] (y<|y<|y<|aI oM<|y2<|y<|λ_=>Ag rfl ?_ Aj));refine By rfl rfl (eC T9 rfl rfl) (λw f hM=>Kk (k3.size+1) w f hM.vl op3 ln3 co3 nm3 tx3 k3 ka3 kc3 (Nat.lt_succ_self _) oM hM.f1) (λx=>trivial) ?_;rintro⟨⟩ -;refine Aa 1 [] (λ_=>Ax [0,1,2,3,4] rfl<|Ag rfl ?_ Aj);refine XT rfl rfl (eC HY rfl rfl) (λ_ h=>h) (λw f hM=>DW w f hM.vl A hA s6 hM.res hM.mz hw6 e ea heB hM.f8 tx2 t6 t6a t6c htb6 hM.f0 (BL (k3.size+1) op3 k3) ln2 co2) (λ_=>As.stab) (λ_=>⟨AJ.mono,tQ⟩) (λer w2 f2 he hE hH=>Mb hn rfl rfl rfl rfl (FD (hti.trans (DC (by rw[hkk];exact W0 h4 hp6 he)))) hE (hH _ Y3) (hH _ Vj) (hH _ Wj)) ?_;rintro⟨e7,ea7⟩ ⟨he7,heB7⟩;dsimp only at he7 heB7 ⊢;refine Aa 1 [] (λ_=>Ax [0,1,2,3,4] rfl<|A6 1 [] (λ_=>Bo<|Aa 9 [4,1] (y<|y<|λb10=>λ_=>D4 1 0 rfl rfl VO rfl rfl rfl rfl rfl rfl rfl rfl (λ_ _=>rfl) oM oM λoa2 oc2=>Aa 7 [5,1] (y<|y<|λb11=>λ_=>D4 0 0 rfl rfl Df rfl rfl rfl rfl rfl rfl rfl rfl (λ_ _=>rfl) oM oM λta2 tc2=>Aa 8 [] (aI ⟨oM,oM⟩<|λ_=>?_)))))
 exact DF ((i+1,r,(out++[(tx2,t6)]),txs++tC t6 t6a t6c,ta2,tc2,oa2,oc2,e7,ea7,s6)) (show r.len<r.len+1 from Nat.lt_succ_self _) ⟨show i+1+r.len=_ by omega,hti.trans (Ir (by rw[hkk];exact ZG h4 hp6 he7)),show (out++[(tx2,t6)]).length≤i+1 by rw[List.length_append];simp;omega,show (Fx (out++[(tx2,t6)])).bnd by rw[DZ];exact Ty.bnd_snoc htyb htb6,heB7,hwt2.2,hrx2,hw6,show r.size≤_ by omega,show s6.fresh+200002*(r.size:Int)≤_ by omega,show (r.size:Int)-nds.size-1≤s6.vars by omega,show s6.vars≤0 by omega⟩ (jH rfl rfl rfl rfl rfl (Eq.trans (b:=some (Value.slice ta2 (out.length+1) tc2)) rfl (by dsimp only;rw[List.length_append];rfl)) rfl rfl rfl) (λw f hM=>⟨_,by have hM9:=(hM.more (B':=[]) (F':=[λw f=>Bi w f (Fx (out++[(tx2,t6)])) (txs++tC t6 t6a t6c)]) nE (AI.mem ⟨by rw[DZ];exact Bi.snoc hM.f1 hM.f8,tQ⟩) (Az.mem ⟨Bi.mono,tQ⟩)).less (sD (sD (sD (sD (sK (sK (sK sZ))))))) sR (B':=[]) nE (F':=[λw f=>Bt w f (some ⟨eb,eo,none⟩) (i+1) r,λw f=>Bi w f (Fx (out++[(tx2,t6)])) (txs++tC t6 t6a t6c),λw f=>AJ w f e7 ea7,λw f=>Fg w f]) (mR [7,0,1,11]);dsimp only;rw[show (out++[(tx2,t6)]).length=out.length+1 by rw[List.length_append];rfl,show bC (Tz (out++[(tx2,t6)]))=bC (Tz out)++[S tx2,S []] by rw[Tz,List.map_append,SP.bC_app];rfl];exact hM9⟩);refine Aa 7 [] (λ_=>AZ 102 rfl rfl (λh5=>?_) (λh5=>?_));refine Aa 2 [] (λ_=>?_);have hwk:k2.wfm 3:=by rcases hwt2.1 with h9|⟨h9,h8⟩|⟨h9,h8⟩ <;> first|exact h8|(exfalso;have:=beq_iff_eq.1 h5;omega)
 obtain⟨op3,ln3,co3,tx3,nm3,k3,r3,rfl⟩:=C8 hwk dC;rw[WL] at hwk;have hks:(Nd.cons op3 ln3 co3 tx3 nm3 k3 r3).size=k3.size+r3.size+1:=rfl;refine Aa 4 [1] (y<|λ_=>XT rfl rfl (eC Ya rfl rfl) (λ_ h=>h) (λw f hM=>RE (k3.size+1) (IL (k3.size+1)) w f hM.vl A hA s hM.res hM.mz hw op2 ln2 co2 nm2 tx2 op3 ln3 co3 nm3 tx3 k3 r3 ka kc e ea (Nat.lt_succ_self _) oM hwk hM.f0 heB hM.f4 oM) (λ_=>As.stab) (λ_=>⟨Ai.mono,tQ⟩) (λer w2 f2 he hE hH=>Mb hn rfl rfl rfl rfl (FD (hti.trans (DC (XF h5 he)))) hE (hH _ Y3) (hH _ Vj) (hH _ Wj)) ?_);rintro⟨⟨t6,t6a,t6c⟩,s6⟩ ⟨hp6,htb6,hw6,hf6⟩;dsimp only at hp6 htb6 hw6 hf6 ⊢;have hfm6:=V7 J8 (K4 J8 _) hp6;have hvv6:s6.vars=s.vars:=hfm6.2.2.2;refine Aa 11 [0,1,0,1] (y<|y<|y<|y<|λ_=>XT rfl rfl (eC HY rfl rfl) (λ_ h=>h) (λw f hM=>DW w f hM.vl A hA s6 hM.res hM.mz hw6 e ea heB hM.f5 tx2 t6 t6a t6c htb6 hM.f0 true ln2 co2) (λ_=>As.stab) (λ_=>⟨AJ.mono,tQ⟩) (λer w2 f2 he hE hH=>Mb hn rfl rfl rfl rfl (FD (hti.trans (DC (W4 h5 hp6 he)))) hE (hH _ Y3) (hH _ Vj) (hH _ Wj)) ?_);rintro⟨e7,ea7⟩ ⟨he7,heB7⟩;dsimp only at he7 heB7 ⊢;exact Aa 11 [4,1] (y<|y<|λb12=>λ_=>D4 1 0 rfl rfl VO rfl rfl rfl rfl rfl rfl rfl rfl (λ_ _=>rfl) oM oM λoa2 oc2=>Aa 7 [5,1] (y<|y<|λb13=>λ_=>D4 0 0 rfl rfl Df rfl rfl rfl rfl rfl rfl rfl rfl (λ_ _=>rfl) oM oM λta2 tc2=>Aa 8 [] (aI ⟨oM,oM⟩<|λ_=>DF ((i+1,r,(out++[(tx2,t6)]),txs++tC t6 t6a t6c,ta2,tc2,oa2,oc2,e7,ea7,s6)) (show r.len<r.len+1 from Nat.lt_succ_self _) ⟨show i+1+r.len=_ by omega,hti.trans (Ir (YD h5 hp6 he7)),show (out++[(tx2,t6)]).length≤i+1 by rw[List.length_append];simp;omega,show (Fx (out++[(tx2,t6)])).bnd by rw[DZ];exact Ty.bnd_snoc htyb htb6,heB7,hwt2.2,hrx2,hw6,show r.size≤_ by omega,show s6.fresh+200002*(r.size:Int)≤_ by omega,show (r.size:Int)-nds.size-1≤s6.vars by omega,show s6.vars≤0 by omega⟩ (jH rfl rfl rfl rfl rfl (Eq.trans (b:=some (Value.slice ta2 (out.length+1) tc2)) rfl (by dsimp only;rw[List.length_append];rfl)) rfl rfl rfl) (λw f hM=>⟨_,by have hM9:=(hM.more (B':=[]) (F':=[λw f=>Bi w f (Fx (out++[(tx2,t6)])) (txs++tC t6 t6a t6c)]) nE (AI.mem ⟨by rw[DZ];exact Bi.snoc hM.f1 hM.f5,tQ⟩) (Az.mem ⟨Bi.mono,tQ⟩)).less (sD (sD (sD (sD (sK (sK (sK sZ))))))) sR (B':=[]) nE (F':=[λw f=>Bt w f (some ⟨eb,eo,none⟩) (i+1) r,λw f=>Bi w f (Fx (out++[(tx2,t6)])) (txs++tC t6 t6a t6c),λw f=>AJ w f e7 ea7,λw f=>Fg w f]) (mR [4,0,1,8]);dsimp only;rw[show (out++[(tx2,t6)]).length=out.length+1 by rw[List.length_append];rfl,show bC (Tz (out++[(tx2,t6)]))=bC (Tz out)++[S tx2,S []] by rw[Tz,List.map_append,SP.bC_app];rfl];exact hM9⟩))));refine Aa 7 [] (λ_=>AZ 116 rfl rfl (λh6=>?_) (λh6=>?_));refine Aa 2 [] (λ_=>?_);have hwk:k2.wfm 3:=by rcases hwt2.1 with h9|⟨h9,h8⟩|⟨h9,h8⟩ <;> first|exact h8|(exfalso;have:=beq_iff_eq.1 h6;omega)
 obtain⟨op3,ln3,co3,tx3,nm3,k3,r3,hkk⟩:=C8 hwk dC;have hwk1:G4 op3 k3:=by have h9:=hwk;rw[hkk] at h9;exact h9
 have hks:k2.size=k3.size+r3.size+1:=by rw[hkk];rfl
 have hkl2:k2.len=r3.len+1:=by rw[hkk];rfl
 refine ZQ 0 rfl hkk<|Jp 0 rfl ?_;rintro⟨eb3,eo3,ka3,kc3⟩ rfl;refine Aa 7 [1,100,0] (y<|aI oM<|y2<|λ_=>XT rfl rfl (eC CI rfl rfl) (λ_ h=>h) (λw f hM=>IL (k3.size+1) w f hM.vl A hA s hM.res hM.mz hw op3 ln3 co3 nm3 tx3 k3 ka3 kc3 e ea (Nat.lt_succ_self _) oM hwk1 hM.f0 heB hM.f7 (by first|omega|(dsimp only;omega))) (λ_=>As.stab) (λ_=>⟨Ai.mono,tQ⟩) (λer w2 f2 he hE hH=>Mb hn rfl rfl rfl rfl (FD (hti.trans (DC (by rw[hkk];exact YR h6 he)))) hE (hH _ Y3) (hH _ Vj) (hH _ Wj)) ?_);rintro⟨⟨t6,t6a,t6c⟩,s6⟩ ⟨hp6,htb6,hw6,hf6⟩;dsimp only at hp6 htb6 hw6 hf6 ⊢;have hfm6:=K4 J8 _ hp6;have hvv6:s6.vars=s.vars:=hfm6.2.2.2;refine Aa 16 [0,1,4,1] (y<|y<|y<|y<|λb14=>λ_=>D4 1 0 rfl rfl VO rfl rfl rfl rfl rfl rfl rfl rfl (λ_ _=>rfl) oM oM λoa2 oc2=>Aa 7 [5,1] (y<|y<|λb15=>λ_=>D4 0 0 rfl rfl Df rfl rfl rfl rfl rfl rfl rfl rfl (λ_ _=>rfl) oM oM λta2 tc2=>Aa 8 [] (aI ⟨oM,oM⟩<|λ_=>?_)));exact DF ((i+1,r,(out++[(([]:lU),t6)]),txs++tC t6 t6a t6c,ta2,tc2,oa2,oc2,e,ea,s6)) (show r.len<r.len+1 from Nat.lt_succ_self _) ⟨show i+1+r.len=_ by omega,hti.trans (Ir (by rw[hkk];exact cD h6 hp6)),show (out++[(([]:lU),t6)]).length≤i+1 by rw[List.length_append];simp;omega,show (Fx (out++[(([]:lU),t6)])).bnd by rw[DZ];exact Ty.bnd_snoc htyb htb6,heB,hwt2.2,hrx2,hw6,show r.size≤_ by omega,show s6.fresh+200002*(r.size:Int)≤_ by omega,show (r.size:Int)-nds.size-1≤s6.vars by omega,show s6.vars≤0 by omega⟩ (jH rfl rfl rfl rfl rfl (Eq.trans (b:=some (Value.slice ta2 (out.length+1) tc2)) rfl (by dsimp only;rw[List.length_append];rfl)) rfl rfl rfl) (λw f hM=>⟨_,by have hM9:=(hM.more (B':=[]) (F':=[λw f=>Bi w f (Fx (out++[(([]:lU),t6)])) (txs++tC t6 t6a t6c)]) nE (AI.mem ⟨by rw[DZ];exact Bi.snoc hM.f0 hM.f7,tQ⟩) (Az.mem ⟨Bi.mono,tQ⟩)).less (sD (sD (sD (sD (sK (sK (sK sZ))))))) sR (B':=[]) nE (F':=[λw f=>Bt w f (some ⟨eb,eo,none⟩) (i+1) r,λw f=>Bi w f (Fx (out++[(([]:lU),t6)])) (txs++tC t6 t6a t6c),λw f=>AJ w f e ea,λw f=>Fg w f]) (mR [6,0,9,10]);dsimp only;rw[show (out++[(([]:lU),t6)]).length=out.length+1 by rw[List.length_append];rfl,show bC (Tz (out++[(([]:lU),t6)]))=bC (Tz out)++[S ([]:lU),S []] by rw[Tz,List.map_append,SP.bC_app];rfl];exact hM9⟩);exfalso;have gh2:=beq_eq_false_iff_ne.1 h2;have gh3:=beq_eq_false_iff_ne.1 h3;have gh4:=beq_eq_false_iff_ne.1 h4;have gh5:=beq_eq_false_iff_ne.1 h5;have gh6:=beq_eq_false_iff_ne.1 h6;rcases hwt2.1 with h9|⟨h9,h8⟩|⟨h9,h8⟩ <;> omega
 refine Aa 3 [] (λ_=>Gp<|Aa 4 [] (λ_=>?_));obtain rfl:r=.nil:=Nd.len0 (by have:=of_decide_eq_false h1;omega);have hti2:BH Ll DA nds []=.ok (out,s):=hti;have hol2:out.length≤200000:=oM;refine QU (λw f=>Ai w f (Fx out) ta tc) Ai.mono (λw f hM=>Hs hM hM.f1)<|Aa 7 [] (λ_=>?_);refine GC (α:=List (lU×lU)×List (lU×T1)) (λx=>x.2.length) (λx=>x.1.length+x.2.length=out.length∧(Ce nds=match EY s x.2 with|.error e=>.error e|.ok l=>.ok (x.1++l))∧(Fx x.2).bnd) (λx=>(E7 2 (pB b1) 3 (pB b2) 4 (pB b3) 5 (pB A.cb) 137 (.slice ta out.length tc) 138 (iV (out.length:Int)) 139 (iV (x.1.length:Int)))) (λx=>⟨λ_=>False,Bz A,As 63 128 A s,w,f⟩) (λx=>[⟨b3,[iV 0],26,true⟩,⟨b2,[iV 0,iV 0],25,true⟩,⟨b1,[.slice oa out.length oc],23,true⟩]) (λx=>[⟨30,2,oa,oc,out.length,bC (Qj x.1 x.2)⟩]) (λx=>[]) (λx=>[λw f=>BN w f ta x.1.length (Fx x.2)]) ([],out) ⟨by simp,(oF hti2).trans T7,htyb⟩ lE (λw f hM=>hM.more (B':=[]) (F':=[λw f=>BN w f ta 0 (Fx out)]) nE (AI.mem ⟨Ai.at hM.f0,tQ⟩) (Az.mem ⟨BN.mono,tQ⟩) |>.less (sK (sK (sK sZ))) sR nE (mR [0])) ?_;rintro⟨d,r⟩ ⟨hdl,hfi,htyr⟩;dsimp only at hdl hfi htyr ⊢;refine Aa 6 [] (λ_=>AZ 140 rfl rfl (λh7=>?_) (λh7=>?_));refine Aa 6 [] (λ_=>?_);have hjl:d.length<out.length:=by have:=of_decide_eq_true h7;omega
 obtain⟨⟨nm2,t2⟩,r2,rfl⟩:∃p q,r=p::q:=by cases r with|nil=>simp only[List.length_nil] at hdl;omega|cons p q=>exact⟨p,q,rfl⟩
 have htb2:t2.bnd∧(Fx r2).bnd:=T1.bnd_cons.1 htyr;refine JU (p:=∃ob,oa=some ⟨ob,0,none⟩) (λw f hM=>by rcases (hM.row _ (.head _)).2 with ⟨_,_,h9⟩|⟨ob,_,h9,_⟩;(dsimp only at h9;omega);exact⟨ob,h9⟩) λhob=>?_;obtain⟨ob,rfl⟩:=hob;refine LQ (α:=Nat×Nat×Option Addr×Nat) (λx=>ta=some ⟨x.1,x.2.1,none⟩) (λx=>[⟨x.1,x.2.1+d.length*4,tC t2 x.2.2.1 x.2.2.2⟩]) (λx=>[λw f=>Ai w f t2.kids x.2.2.1 x.2.2.2,λw f=>BN w f ta (d.length+1) (Fx r2)]) (λw f hM=>let ⟨b,off,ka,kc,h1,h2,h3,h4⟩:=BN.head (show BN w f ta d.length (t2.cons (Fx r2)) from hM.f0);⟨(b,off,ka,kc),h1,(oE h2),AI.mem ⟨h3,h4,tQ⟩⟩) (λx=>Az.mem ⟨Ai.mono,BN.mono,tQ⟩) ?_;rintro⟨ab2,ao2,ka2,kc2⟩ rfl;refine Aa 9 [100,0,0] (aI oM<|y2<|λb16=>y<|λ_=>Xu [2,3,4] (λ_=>True) ER [0,1,2,3] Aq (rd [0,1,2,3,4] (.br 5 (.br 6 (.rd 7 (.rd 8 (.br 9 .fin .fin))) .fin) .fin)) rfl kR kR kR rfl EE<|A6 5 [3,0] (y<|y<|λ_=>Ag rfl ?_ Aj));refine XT rfl rfl (eC F5 rfl rfl) (λ_ h=>h) (λw f hM=>Co w f hM.vl A hA s hM.res hM.mz hw t2 ka2 kc2 htb2.1 hM.f0 0 0) (λ_=>As.stab) (λ_=>⟨Ai.mono,tQ⟩) (λer w2 f2 he hE hH=>Mb hn rfl rfl rfl rfl (by rw[hfi,aZ he]) hE (hH _ Vj) (hH _ Wj) (hH _ oW)) ?_;rintro⟨u2,ua2,uc2⟩ ⟨hfu,hub2,hus2⟩;dsimp only at hfu hub2 hus2 ⊢;refine Aa 1 [] (λ_=>Ax [0,1,2,3] rfl<|Ag rfl ?_ Aj);refine By rfl rfl (eC oS rfl rfl) (λw f hM=>XE w f hM.vl u2 ua2 uc2 hus2 hub2 hM.f0) (λx=>trivial) ?_;rintro⟨⟩ -;refine Aa 1 [] (λ_=>Ax [0,1,2,3] rfl<|A6 2 [] (aI oM<|λ_=>Ag rfl ?_ Aj));exact wV 0 (bC (Qj (d++[(nm2,JR u2)]) r2)) rfl rfl rfl rfl qK rfl rfl rfl (by simp only[Nat.zero_add,List.length_cons,List.length_nil,Int.toNat_natCast];omega) (by rw[Nat.zero_add,Int.toNat_natCast];exact Xr) rfl<|Aa 1 [] (λ_=>Ax [0,1,2,3] rfl<|Bo<|Aa 6 [] (aI ⟨oM,oM⟩<|λ_=>DF ((d++[(nm2,JR u2)],r2)) (show r2.length<((nm2,t2)::r2).length from Nat.lt_succ_self _) ⟨show (d++[(nm2,JR u2)]).length+r2.length=_ by simp only[List.length_append,List.length_cons,List.length_nil] at hdl ⊢;omega,hfi.trans (Wy hfu),htb2.2⟩ (yO rfl rfl rfl rfl rfl rfl (Eq.trans (b:=some (Value.int .i64 ((d.length:Int)+1))) rfl (by dsimp only;simp))) (λw f hM=>⟨_,by have hM9:=hM.less (sD (sK (sK (sK sZ)))) sR (B':=[]) nE (F':=[λw f=>BN w f (some ⟨ab2,ao2,none⟩) (d.length+1) (Fx r2)]) (mR [2]);dsimp only;rw[List.length_append];exact hM9⟩)));refine Aa 3 [] (λ_=>Gp<|Aa 3 [] (λ_=>?_));obtain rfl:r=[]:=by have h9:=of_decide_eq_false h7;cases r with|nil=>rfl|cons p q=>simp only[List.length_cons] at hdl;omega
 refine Aa 9 [2,2,1,0] (y<|y<|y<|y<|λ_=>λw9 f9 hM=>?_);obtain⟨f8,hM8,hB8⟩:=mN (l:=Qj d []) (by have hM9:=hM;rw[show out.length=(Qj d []).length by rw[Qj,List.length_append];simp only[List.map_nil,List.length_nil];exact hdl.symm] at hM9;exact hM9);have hinf:Ce nds=.ok d:=by rw[hfi];show (Except.ok (d++[]):RI _)=_;rw[List.append_nil]
 have hdd:Qj d []=d:=List.append_nil d;rw[hdd] at hB8;exact λtmps ht=>qE rfl rfl rfl rfl hinf hM8.exm hB8 (by have h9:=hM8.blk _ Wj;rw[hdd] at h9;exact h9) (hM8.blk _ oW) (hM8.blk _ xC) tmps ht
end Go.Proofs.YtkahkniflkadoaaGreatDoor
namespace Go.SP
open Go.SW Go.RowKit
def Fo.sz:Fo→Nat
 |.nil=>0
 |.cons _ k r=>k.sz+r.sz+1
structure NW(k:Fo)(a:N):Prop where
 tx:a.tx.length≤100000
 kt:a.kids.txb
 sz:a.kids.size+2≤2*(k.sz+1)
def EW(f:AA→Fo→R N):Prop:=∀t k a,t.ok→k.ok→f t k=.ok a→NW k a
theorem IC{f:AA→Fo→R N}(hf:EW f):∀(fo:Fo)(x:Nd),fo.ok→AE f fo=.ok x→x.txb∧x.size+x.len≤2*fo.sz∧x.len=fo.len
 |.nil,x,_,h=>by cases h;exact⟨tQ,Nat.le_refl _,rfl⟩
 |.cons t k r,x,hk,h=>by
   unfold AE at h
   split at h
   · cases h
   rename_i a h1
   split at h
   · cases h
   rename_i b h2
   cases h
   have ha:=hf t k a hk.1 hk.2.1 h1;obtain⟨e1,e2,e3⟩:=IC hf r b hk.2.2.2 h2;refine⟨⟨ha.tx,ha.kt,e1⟩,?_,by simp only[N.cons,Nd.len,Fo.len,e3]⟩;have:=ha.sz;simp only[N.cons,Nd.size,Nd.len,Fo.sz];omega
variable {h:AA}{hk:Fo}{co ln:Int}{n:Nat}{ks:Nd}
theorem gX{t:AA}{k:Fo}{op nm:Int}{tx:lU}(h:tx.length≤100000):NW k ⟨op,ln,co,tx,nm,.nil⟩:=⟨h,tQ,by simp only[Nd.size];omega⟩
theorem uE{f:AA→Fo→R N}(hf:EW f){l:Fo}(hl:(Fo.cons h hk l).ok){op nm:Int}{tx:lU}(ht:tx.length≤100000)(he:AE f l=.ok ks):NW (.cons h hk l) ⟨op,ln,co,tx,nm,ks⟩:=by
 obtain⟨e1,e2,_⟩:=IC hf l ks hl.2.2.2 he;refine⟨ht,e1,?_⟩;simp only[Fo.sz];omega
theorem xY{f:AA→Fo→R N}(hf:EW f){l:Fo}(hl:l.ok){op nm:Int}{tx:lU}(ht:tx.length≤100000)(he:AE f l=.ok ks):NW l ⟨op,ln,co,tx,nm,ks⟩:=by
 obtain⟨e1,e2,_⟩:=IC hf l ks hl he;refine⟨ht,e1,?_⟩;simp only;omega
theorem VC:EW Gn:=λt k a ht _ h=>by
 unfold Gn at h
 cases h
 split
 · exact gX (t:=t) (Nat.zero_le _)
 · exact gX (t:=t) ht.2
theorem bP:∀n,EW (D2 n)
 |0=>λ_ _ _ _ _ h=>by cases h
 |n+1=>λt k a ht hk h=>by
   have ih:=bP n;unfold D2 at h;simp only[need] at h
   repeat' (split at h)
   all_goals first
     |(cases h;done)
     |exact VC t _ a ht hk h
     |(cases h;first|exact gX (t:=t) (Nat.zero_le _)|exact gX (t:=t) ht.2|exact uE ih hk (Nat.zero_le _) (by assumption)|exact uE ih hk hk.1.2 (by assumption))
theorem Ro{t:AA}:∀(x:Nd)(o:N),x.txb→Cr t x=some o→o.tx.length≤100000∧o.kids.txb∧o.kids.size+2≤x.size+x.len
 |.nil,_,_,h=>by cases h
 |.cons op ln co tx nm kids .nil,o,hb,h=>by
   unfold Cr at h
   cases h
   exact⟨hb.1,hb.2.1,by simp only[Nd.size,Nd.len];omega⟩
 |.cons op ln co tx nm kids (.cons a b c d e f r),o,hb,h=>by
   unfold Cr at h;simp only at h
   cases hr:Cr t (.cons a b c d e f r) with
   |none=>rw[hr] at h;cases h
   |some q =>
     rw[hr] at h
     cases h
     obtain⟨h1,h2,h3⟩:=Ro (.cons a b c d e f r) q hb.2.2 hr;refine⟨by simp[Av],⟨hb.1,hb.2.1,h1,h2,tQ⟩,?_⟩;simp only[Av,N.one,N.cons,Nd.size,Nd.len] at h3 ⊢;omega
theorem Eo{α:Type}{t:AA}{b:Bool}{x:R α}{a:α}(h:need t b x=.ok a):b=true∧x=.ok a:=by
 unfold need at h
 split at h
 · rename_i hb;exact⟨hb,h⟩
 · cases h
theorem TJ:∀n,EW (CK n)
 |0=>λ_ _ _ _ _ h=>by cases h
 |n+1=>λt k a ht hk h=>by
   have ih:=TJ n;unfold CK at h
   by_cases hk0:(t.k==0)=true
   · rw[if_pos hk0] at h
     split at h
     · cases h
     rename_i hd hkk l;simp only at h
     by_cases hw:hd.isWord [45,62]=true
     · rw[if_pos hw] at h
       obtain⟨_,h⟩:=Eo h
       split at h
       · cases h
       rename_i ks he;obtain⟨e1,e2,e3⟩:=IC ih l ks hk.2.2.2 he
       split at h
       · rename_i o ho
         cases h
         obtain⟨h1,h2,h3⟩:=Ro ks _ e1 ho;exact⟨h1,h2,by simp only[Fo.sz];omega⟩
       · cases h
     · rw[if_neg hw] at h
       obtain⟨_,h⟩:=Eo h
       split at h
       · cases h
       rename_i ks he
       cases h
       exact uE ih hk hk.1.2 he
   · rw[if_neg hk0] at h
     split at h
     · cases h;exact gX (t:=t) ht.2
     · obtain⟨_,h⟩:=Eo h
       cases h;exact gX (t:=t) ht.2
theorem oJ{ex:AA→Fo→R N}(hex:EW ex):EW (Fj n ex):=λt k a ht hk h=>by
 unfold Fj at h
 split at h
 · rename_i p pk b bk
   obtain⟨_,h⟩:=Eo h
   split at h
   · cases h
   rename_i q h1;obtain⟨_,h⟩:=Eo h
   split at h
   · cases h
   rename_i x h3
   cases h
   have h1:=bP n _ _ _ hk.1 hk.2.1 h1;have h3:=hex _ _ _ hk.2.2.2.1 hk.2.2.2.2.1 h3;refine⟨by simp[Av],⟨h1.tx,h1.kt,h3.tx,h3.kt,tQ⟩,?_⟩;have:=h1.sz;have:=h3.sz;simp only[Av,N.one,N.cons,Nd.size,Fo.sz];omega
 · cases h
theorem Qo:∀{x y:Nd},x.txb→y.txb→(x.app y).txb
 |.nil,_,_,h=>h
 |.cons _ _ _ _ _ _ _,_,h,hy=>⟨h.1,h.2.1,Qo h.2.2 hy⟩
theorem NH:∀(x y:Nd),(x.app y).size=x.size+y.size
 |.nil,_=>by simp[Nd.app,Nd.size]
 |.cons _ _ _ _ _ _ r,y=>by simp only[Nd.app,Nd.size,NH r y];omega
theorem wX{x y:N}{k1 k2 k:Fo}(h1:NW k1 x)(h2:NW k2 y)(hs:k1.sz+k2.sz+2≤k.sz){op nm:Int}{tx:lU}(ht:tx.length≤100000):NW k ⟨op,ln,co,tx,nm,x.cons y.one⟩:=by
 refine⟨ht,⟨h1.tx,h1.kt,h2.tx,h2.kt,tQ⟩,?_⟩;have:=h1.sz;have:=h2.sz;simp only[N.one,N.cons,Nd.size];omega
theorem vN{x:N}{k1 k:Fo}(h1:NW k1 x)(hs:k1.sz+1≤k.sz){op nm:Int}{tx:lU}(ht:tx.length≤100000):NW k ⟨op,ln,co,tx,nm,x.one⟩:=by
 refine⟨ht,⟨h1.tx,h1.kt,tQ⟩,?_⟩;have:=h1.sz;simp only[N.one,N.cons,Nd.size];omega
theorem dZ{ex:AA→Fo→R N}(hex:EW ex){t:AA}{w:lU}{l:Fo}{a:N}(hl:l.ok)(h:Bb n ex t w l=.ok a):NW l a:=by
 unfold Bb at h;simp only[need] at h
 split at h
 · split at h
   · split at h
     · split at h
       · cases h
       rename_i hs h1
       split at h
       · cases h
       rename_i x h3
       cases h
       obtain⟨e1,e2,_⟩:=IC VC _ _ hl.2.1 h1;have hx:=hex _ _ _ hl.2.2.2.1 hl.2.2.2.2.1 h3;refine⟨by simp[Av],Qo e1 ⟨hx.tx,hx.kt,tQ⟩,?_⟩;have:=hx.sz;simp only[Av,NH,N.one,N.cons,Nd.size,Fo.sz];omega
     · cases h
   · cases h
 split at h
 · split at h
   · split at h
     · split at h
       · cases h
       rename_i x h1
       split at h
       · cases h
       rename_i y h3
       cases h
       exact wX (hex _ _ _ hl.2.2.2.1 hl.2.2.2.2.1 h1) (hex _ _ _ hl.2.2.2.2.2.2.1 hl.2.2.2.2.2.2.2.1 h3) (by simp only[Fo.sz];omega) hl.1.2
     · cases h
   · cases h
 split at h
 · split at h
   · split at h
     · split at h
       · cases h
       rename_i x h1
       split at h
       · cases h
       rename_i y h3
       cases h
       exact wX (hex _ _ _ hl.2.2.2.1 hl.2.2.2.2.1 h1) (hex _ _ _ hl.2.2.2.2.2.2.1 hl.2.2.2.2.2.2.2.1 h3) (by simp only[Fo.sz];omega) hl.1.2
     · cases h
   · cases h
 iterate 3
   split at h
   · split at h
     · split at h
       · cases h
       rename_i ks h1
       cases h
       exact xY hex hl (Nat.zero_le _) h1
     · cases h
 split at h
 · split at h
   · split at h
     · cases h
     · split at h
       · cases h
       rename_i x h1
       split at h
       · cases h
       rename_i ars h3
       cases h
       have hx:=hex _ _ _ hl.1 hl.2.1 h1;obtain⟨e1,e2,_⟩:=IC (oJ hex) _ _ hl.2.2.2 h3;refine⟨by simp[Av],⟨hx.tx,hx.kt,e1⟩,?_⟩;have:=hx.sz;simp only[Av,N.cons,Nd.size,Fo.sz];omega
   · cases h
 split at h
 · split at h
   · split at h
     · cases h
     rename_i x h1
     cases h
     exact vN (hex _ _ _ hl.1 hl.2.1 h1) (by simp only[Fo.sz];omega) (Nat.zero_le _)
   · cases h
 · cases h
theorem uG{l:Fo}{a:N}(h1:NW l a):NW (.cons h hk l) a:=⟨h1.tx,h1.kt,by have:=h1.sz;simp only[Fo.sz];omega⟩
theorem N0:∀n,EW (BC n)
 |0=>λ_ _ _ _ _ h=>by cases h
 |n+1=>λt k a ht hk h=>by
   have ih:=N0 n;unfold BC at h;simp only[need] at h
   repeat' (split at h)
   all_goals first
     |(cases h;done)
     |exact uG (dZ ih hk.2.2.2 h)
     |(cases h;first|exact gX (t:=t) (Nat.zero_le _)|exact gX (t:=t) ht.2|exact uE ih hk hk.1.2 (by assumption)|exact xY ih hk (Nat.zero_le _) (by assumption))
theorem dU(n:Nat):EW (EJ n):=λt k a ht hk h=>by
 unfold EJ at h;simp only[need] at h
 repeat' (split at h)
 all_goals first
   |(cases h;done)
   |(cases h;exact uE (TJ n) hk hk.1.2 (by assumption))
theorem Tb:∀(k:Fo)(x:Nd),k.ok→Bq k=some x→x.txb∧x.size≤k.sz
 |.nil,x,_,h=>by cases h;exact⟨tQ,Nat.le_refl _⟩
 |.cons v _ r,x,hk,h=>by
   unfold Bq at h
   split at h
   · cases hr:Bq r with
     |none=>rw[hr] at h;cases h
     |some y =>
       rw[hr] at h
       cases h
       have:=Tb r y hk.2.2.2 hr;exact⟨⟨hk.1.2,tQ,this.1⟩,by simp only[Av,N.cons,Nd.size,Fo.sz];omega⟩
   · cases h
theorem lC(n:Nat):EW (Ct n):=λt k a ht hk h=>by
 unfold Ct at h;simp only[need] at h
 split at h
 · cases h
 rename_i hd hkk l;have hl:=hk.2.2.2
 split at h
 · split at h
   · split at h
     · split at h
       · split at h
         · cases h
         rename_i vs hv
         split at h
         · cases h
         rename_i cs h1
         cases h
         obtain⟨e1,e2⟩:=Tb _ _ hl.2.2.2.2.1 hv;obtain⟨e3,e4,_⟩:=IC (dU n) _ _ hl.2.2.2.2.2.2 h1;refine⟨hl.1.2,Qo e1 e3,?_⟩;simp only[Av,NH,Fo.sz] at e4 ⊢;omega
       · cases h
     · cases h
   split at h
   · split at h
     · split at h
       · split at h
         · cases h
         rename_i x h1
         split at h
         · cases h
         rename_i y h3
         cases h
         exact wX (TJ n _ _ _ hl.2.2.2.1 hl.2.2.2.2.1 h1) (N0 n _ _ _ hl.2.2.2.2.2.2.1 hl.2.2.2.2.2.2.2.1 h3) (by simp only[Fo.sz];omega) hl.1.2
       · cases h
     · cases h
   split at h
   · split at h
     · split at h
       · split at h
         · cases h
         rename_i x h1
         cases h
         exact vN (N0 n _ _ _ hl.2.2.2.1 hl.2.2.2.2.1 h1) (by simp only[Fo.sz];omega) hl.1.2
       · cases h
     · cases h
   split at h
   · split at h
     · split at h
       · split at h
         · cases h
         rename_i x h1
         cases h
         exact vN (N0 n _ _ _ hl.2.2.2.1 hl.2.2.2.2.1 h1) (by simp only[Fo.sz];omega) hl.1.2
       · cases h
     · cases h
   split at h
   · split at h
     · split at h
       · cases h
       rename_i x h1
       cases h
       exact vN (N0 n _ _ _ hl.1 hl.2.1 h1) (by simp only[Fo.sz];omega) (Nat.zero_le _)
     · cases h
   · cases h
 · cases h
def EX(f:AA→Fo→R N):Prop:=∀t k a,f t k=.ok a→G4 a.op a.kids
theorem Lz{f:AA→Fo→R N}(hf:EX f):∀(fo:Fo)(x:Nd),AE f fo=.ok x→x.wfm 0
 |.nil,x,h=>by cases h;exact .inl rfl
 |.cons t k r,x,h=>by
   unfold AE at h
   split at h
   · cases h
   rename_i a h1
   split at h
   · cases h
   rename_i b h2
   cases h
   exact⟨hf t k a h1,Lz hf r b h2⟩
theorem Ld{f:AA→Fo→R N}:∀(fo:Fo)(x:Nd),AE f fo=.ok x→x.len=fo.len
 |.nil,x,h=>by cases h;rfl
 |.cons t k r,x,h=>by
   unfold AE at h
   split at h
   · cases h
   split at h
   · cases h
   rename_i b h2
   cases h
   simp only[N.cons,Nd.len,Fo.len,Ld r b h2]
theorem XW{ex:AA→Fo→R N}(hex:EX ex):∀(fo:Fo)(x:Nd),AE (Fj n ex) fo=.ok x→x.wfm 1
 |.nil,x,h=>by cases h;exact .inr rfl
 |.cons t k r,x,h=>by
   unfold AE at h
   split at h
   · cases h
   rename_i a h1
   split at h
   · cases h
   rename_i b h2
   cases h
   refine⟨?_,XW hex r b h2⟩;unfold Fj at h1;simp only[need] at h1
   repeat' (split at h1)
   all_goals first
     |(cases h1;done)
     |(rename_i h3;cases h1;exact hex _ _ _ h3)
theorem qL:∀(hs:Nd){x:N},G4 x.op x.kids→(hs.app x.one).wfm 4
 |.nil,x,h=>.inl ⟨rfl,h⟩
 |.cons op ln co tx nm k r,x,h=>by
   refine .inr ⟨?_,qL r h⟩
   cases r <;> simp[Nd.app,N.one,N.cons]
theorem cT:∀{x:Nd},x.wfm 0→x.len=3→x.wfm 7
 |.cons _ _ _ _ _ _ (.cons _ _ _ _ _ _ (.cons _ _ _ _ _ _ .nil)),h,_=>⟨h.1,h.2.1,h.2.2.1⟩
 |.nil,_,h=>by cases h
 |.cons _ _ _ _ _ _ .nil,_,h=>by cases h
 |.cons _ _ _ _ _ _ (.cons _ _ _ _ _ _ .nil),_,h=>by cases h
 |.cons _ _ _ _ _ _ (.cons _ _ _ _ _ _ (.cons _ _ _ _ _ _ (.cons _ _ _ _ _ _ _))),_,h=>by simp[Nd.len] at h
theorem eB{ex:AA→Fo→R N}(hex:EX ex){t:AA}{w:lU}{l:Fo}{a:N}(h:Bb n ex t w l=.ok a):G4 a.op a.kids:=by
 unfold Bb at h;simp only[need] at h
 split at h
 · repeat' (split at h)
   all_goals first
     |(cases h;done)
     |(rename_i h3;cases h;exact .inr (.inr (.inl ⟨rfl,qL _ (hex _ _ _ h3)⟩)))
 split at h
 · repeat' (split at h)
   all_goals first
     |(cases h;done)
     |(rename_i h1 _ _ h3;cases h;exact .inr (.inr (.inr (.inr (.inl ⟨.inl rfl,hex _ _ _ h1,hex _ _ _ h3⟩)))))
 split at h
 · repeat' (split at h)
   all_goals first
     |(cases h;done)
     |(rename_i h1 _ _ h3;cases h;exact .inr (.inr (.inr (.inr (.inl ⟨.inr rfl,hex _ _ _ h1,hex _ _ _ h3⟩)))))
 split at h
 · split at h
   · rename_i hn
     split at h
     · cases h
     rename_i ks h1
     cases h
     have e:=Ld _ _ h1;have hn:=beq_iff_eq.1 hn;exact .inr (.inr (.inr (.inr (.inr (.inl ⟨rfl,cT (Lz hex _ _ h1) (show ks.len=3 by omega)⟩)))))
   · cases h
 split at h
 · split at h
   · rename_i hn
     split at h
     · cases h
     rename_i ks h1
     cases h
     have e:=Ld _ _ h1;have hn:=of_decide_eq_true hn;exact .inr (.inr (.inr (.inl ⟨.inr rfl,by show 0<ks.len;omega,Lz hex _ _ h1⟩)))
   · cases h
 split at h
 · split at h
   · split at h
     · cases h
     rename_i ks h1
     cases h
     exact .inr (.inr (.inr (.inr (.inr (.inr (.inl ⟨rfl,Lz hex _ _ h1⟩))))))
   · cases h
 split at h
 · split at h
   · split at h
     · cases h
     · split at h
       · cases h
       rename_i x h1
       split at h
       · cases h
       rename_i ars h3
       cases h
       refine .inr (.inr (.inr (.inr (.inr (.inr (.inr (.inl ⟨?_,hex _ _ _ h1,XW hex _ _ h3⟩)))))));simp only[Av]
       split
       · exact .inr rfl
       · exact .inl rfl
   · cases h
 split at h
 · split at h
   · split at h
     · cases h
     rename_i x h1
     cases h
     refine .inr (.inr (.inr (.inr (.inr (.inr (.inr (.inr ⟨?_,hex _ _ _ h1⟩)))))));simp only[Av]
     split
     · exact .inr rfl
     · exact .inl rfl
   · cases h
 · cases h
theorem Nw:∀n,EX (BC n)
 |0=>λ_ _ _ h=>by cases h
 |n+1=>λt k a h=>by
   have ih:=Nw n;unfold BC at h;simp only[need] at h
   iterate 4
     split at h
     · cases h;first|exact .inr (.inl ⟨rfl,.inl rfl⟩)|exact .inl (by simp[Av])
   split at h
   · split at h
     · cases h;exact .inl (by simp[Av])
     · cases h
   split at h
   · cases h;exact .inl (by simp[Av])
   split at h
   · split at h
     · split at h
       · cases h
       rename_i ks h1
       cases h
       exact .inr (.inl ⟨rfl,Lz ih _ _ h1⟩)
     · cases h
   split at h
   · exact eB ih h
   · split at h
     · split at h
       · cases h
       rename_i ks h1
       cases h
       have e:=Ld _ _ h1;exact .inr (.inr (.inr (.inl ⟨.inl rfl,by show 0<ks.len;rw[e];exact Nat.succ_pos _,Lz ih _ _ h1⟩)))
     · cases h
theorem nW{t:AA}{k:Fo}{a:N}(h:Ct n t k=.ok a):a.op=41∨(a.op=43∧a.kids.wfm 2)∨((a.op=44∨a.op=45∨a.op=46)∧a.kids.wfm 3):=by
 unfold Ct at h;simp only[need] at h
 split at h
 · cases h
 split at h
 · split at h
   · repeat' (split at h)
     all_goals first
       |(cases h;done)
       |(cases h;exact .inl rfl)
   split at h
   · repeat' (split at h)
     all_goals first
       |(cases h;done)
       |(rename_i h3;cases h;exact .inr (.inl ⟨rfl,Nw n _ _ _ h3⟩))
   split at h
   · repeat' (split at h)
     all_goals first
       |(cases h;done)
       |(rename_i h3;cases h;exact .inr (.inr ⟨.inl rfl,Nw n _ _ _ h3⟩))
   split at h
   · repeat' (split at h)
     all_goals first
       |(cases h;done)
       |(rename_i h3;cases h;exact .inr (.inr ⟨.inr (.inl rfl),Nw n _ _ _ h3⟩))
   split at h
   · repeat' (split at h)
     all_goals first
       |(cases h;done)
       |(rename_i h3;cases h;exact .inr (.inr ⟨.inr (.inr rfl),Nw n _ _ _ h3⟩))
   · cases h
 · cases h
theorem ZR:∀(fo:Fo)(x:Nd),AE (Ct n) fo=.ok x→x.wft
 |.nil,x,h=>by cases h;trivial
 |.cons t k r,x,h=>by
   unfold AE at h
   split at h
   · cases h
   rename_i a h1
   split at h
   · cases h
   rename_i b h2
   cases h
   exact⟨nW h1,ZR r b h2⟩
theorem PU:∀(a:Fo)(t:AA)(k:Fo),(a.snoc t k).sz=a.sz+k.sz+1
 |.nil,_,_=>by simp[Fo.snoc,Fo.sz]
 |.cons _ _ r,t,k=>by simp only[Fo.snoc,Fo.sz,PU r t k];omega
def Xp:List (AA×Fo)→Nat
 | []=>0
 |(_,p)::s=>p.sz+1+Xp s
theorem KR:∀(l:List AA)(st:List (AA×Fo))(cur fo:Fo),A9 l st cur=.ok fo→fo.sz≤Xp st+cur.sz+l.length
 | [],[],cur,fo,h=>by simp only[A9] at h;cases h;simp[Xp]
 | [],(o,p)::s,cur,fo,h=>by unfold A9 at h;split at h <;> cases h
 |k::l,st,cur,fo,h=>by
   unfold A9 at h
   split at h
   · split at h
     · cases h
     · have:=KR l _ _ _ h
       simp only[Xp,Fo.sz,List.length_cons] at this ⊢;omega
   · split at h
     · cases st with
       |nil=>cases h
       |cons op s =>
         have:=KR l _ _ _ h;simp only[Xp,PU,List.length_cons] at this ⊢;omega
     · have:=KR l _ _ _ h
       simp only[PU,Fo.sz,List.length_cons] at this ⊢;omega
structure yG(nds:Nd):Prop where
 wft:nds.wft
 txb:nds.txb
 size:nds.size≤200000
theorem eY(n:Nat)(src:lU):yG (FP n (Hl src)).1:=by
 unfold FP
 cases hl:Hl src with
 |error e=>exact⟨tQ,tQ,Nat.zero_le _⟩
 |ok toks =>
   obtain⟨h1,h2⟩:=Vq hl;simp only
   cases ht:A9 toks [] .nil with
   |error e=>exact⟨tQ,tQ,Nat.zero_le _⟩
   |ok fo =>
     simp only
     cases he:AE (Ct n) fo with
     |error e=>exact⟨tQ,tQ,Nat.zero_le _⟩
     |ok nds =>
       have h3:=(GX toks 0 [] .nil fo h2 oM (by simp) tQ tQ (by simp[Fo.len]) (by rfl) ht).1;have h4:=KR toks [] .nil fo ht;obtain⟨e1,e2,_⟩:=IC (lC n) fo nds h3 he;simp only[Xp,Fo.sz] at h4;exact⟨ZR fo nds he,e1,by show nds.size≤_;omega⟩
theorem Zc{a b:Int}:((a,b,11):Er).2.2≠0:=(by decide:(11:Int)≠0)
theorem e4{a b:Int}:((a,b,4):Er).2.2≠0:=(by decide:(4:Int)≠0)
theorem dK{b:Bn}{n:Int}{t:T1}{x:Int}(h:Ca b n t=.error x):x≠0:=by
 unfold Ca at h
 repeat' split at h
 all_goals (cases h;try decide)
theorem Pp{f:Bn→Ty→Ty→Except Int Bn}(hf:∀ {b x y e},f b x y=.error e→e≠0){b:Bn}{x y:T1}{r q:Ty}{e:Int}(h:ED f b x y r q=.error e):e≠0:=by
 unfold ED at h
 repeat' split at h
 all_goals first
   |exact hf h
   |(cases h;first|decide|exact dK (by assumption))
theorem L3:∀(k:Nat){b:Bn}{x y:Ty}{e:Int},Gb k b x y=.error e→e≠0
 |k,b,.nil,y,e,h=>by cases k <;> cases h
 |0,b,.var _ _,y,e,h=>by cases h;decide
 |0,b,.con _ _ _,y,e,h=>by cases h;decide
 |k+1,b,.var n r,y,e,h=>Pp (L3 k) h
 |k+1,b,.con tx ka r,y,e,h=>Pp (L3 k) h
section
variable{s:CS}{e:AD}{ln co:Int}{tx:lU}{t u:T1}{x:Er}
theorem Hy(h:Es s t u ln co=.error x):x.2.2≠0:=by
 unfold Es at h
 split at h
 · rename_i h1;cases h;exact L3 _ h1
 · cases h
theorem Lg(h:Eu s t ln co=.error x):x.2.2≠0:=by
 unfold Eu at h
 split at h
 · cases h;first|exact Zc|exact e4
 · cases h
theorem QA{v:Bool}(h:Ev s e tx t v ln co=.error x):x.2.2≠0:=by
 unfold Ev at h
 repeat' split at h
 · rename_i h1;cases h;exact Lg h1
 · cases h
 · cases h
theorem VP{k:Nat}(h:GJ s tx k ln co=.error x):x.2.2≠0:=by
 unfold GJ at h
 repeat' split at h
 all_goals (cases h;try exact Zc)
theorem fO(h:Ft s e tx ln co=.error x):x.2.2≠0:=by
 unfold Ft at h
 repeat' split at h
 · cases h;first|exact Zc|exact e4
 · rename_i h1;cases h;exact Lg h1
 · cases h
end
def xZ(p:Kn):Prop:=∀{s e op ln co tx nm k x},p s e op ln co tx nm k=.error x→x.2.2≠0
def yA(p:Lo):Prop:=∀{s e op ln co tx nm k x},p s e op ln co tx nm k=.error x→x.2.2≠0
section
variable{p:Kn}(hp:xZ p)
include hp
theorem QG{e:AD}:∀(k:Nd){s:CS}{x:Er},D5 p e s k=.error x→x.2.2≠0
 |.nil,_,_,h=>by cases h
 |.cons op ln co tx nm k r,s,x,h=>by
   unfold D5 at h
   split at h
   · rename_i h1;cases h;exact hp h1
   · split at h
     · rename_i h2;cases h;exact QG r h2
     · cases h
theorem Wf{e:AD}:∀(k:Nd){s:CS}{l:Ty}{x:Er},EL p e s l k=.error x→x.2.2≠0
 |.nil,_,_,_,h=>by cases h
 |.cons op ln co tx nm k r,s,l,x,h=>by
   unfold EL at h
   split at h
   · rename_i h1;cases h;exact hp h1
   · split at h
     · rename_i h2;cases h;exact Hy h2
     · exact Wf r h
theorem YP{e:AD}:∀(k:Nd){s:CS}{t:T1}{x:Er},HS p e s t k=.error x→x.2.2≠0
 |.nil,_,_,_,h=>by cases h
 |.cons op ln co tx nm k r,s,t,x,h=>by
   unfold HS at h
   split at h
   · rename_i h1;cases h;exact hp h1
   · split at h
     · rename_i h2;cases h;exact Hy h2
     · exact YP r h
variable {k:Nd}
theorem bG{s:CS}{e:AD}{ln co o l c m:Int}{tx x:lU}{y:Er}(h:FK p s e ln co tx o l c x m k=.error y):y.2.2≠0:=by
 unfold FK at h
 split at h
 · rename_i h1;cases h;exact hp h1
 · split at h
   · rename_i h2;cases h;exact Hy h2
   · cases h
omit hp
variable{q:Lo}(hq:yA q)
include hq
theorem Rc:∀(k:Nd){s:CS}{e:AD}{l:Ty}{x:Er},EG q s e l k=.error x→x.2.2≠0
 |.nil,_,_,_,_,h=>by cases h
 |.cons op ln co tx nm k r,s,e,l,x,h=>by
   unfold EG at h
   split at h
   · rename_i h1;cases h;exact hq h1
   · split at h
     · rename_i h2;cases h;exact Hy h2
     · exact Rc r h
theorem RV:∀(k:Nd){s:CS}{e:AD}{x:Er},Ec q s e k=.error x→x.2.2≠0
 |.nil,_,_,_,h=>by cases h
 |.cons op ln co tx nm k r,s,e,x,h=>by
   unfold Ec at h
   split at h
   · rename_i h1;cases h;exact hq h1
   · split at h
     · rename_i h2;cases h;exact RV r h2
     · cases h
theorem fE{s:CS}{e:AD}{op ln co:Int}{tx:lU}{x:Er}(h:CC q s e op ln co tx k=.error x):x.2.2≠0:=by
 unfold CC at h
 repeat' (split at h)
 all_goals first
   |(cases h;done)
   |(cases h;first|exact VP (by assumption)|exact Rc hq _ (by assumption)|exact RV hq _ (by assumption))
omit hq
theorem YF:∀n,yA (Cl n)
 |0=>λh=>by cases h;first|exact Zc|exact e4
 |n+1=>λh=>by
   unfold Cl at h
   split at h
   · rename_i h1;cases h;exact fE (YF n) h1
   · split at h
     · rename_i h1;cases h;exact Lg h1
     · cases h
include hp
theorem M3{e:AD}{pt:T1}:∀(k:Nd){s:CS}{t:Option T1}{x:Er},C6 n p e pt s t k=.error x→x.2.2≠0
 |.nil,_,_,_,h=>by unfold C6 at h;cases h
 |.cons _ _ _ _ _ ks r,s,t,x,h=>by
   unfold C6 at h
   split at h
   · split at h
     · rename_i h1;cases h;exact YF _ h1
     · split at h
       · rename_i h1;cases h;exact Hy h1
       · split at h
         · rename_i h1;cases h;exact hp h1
         · split at h
           · split at h
             · rename_i h1;cases h;exact Hy h1
             · exact M3 r h
           · exact M3 r h
   · cases h
theorem gD{s:CS}{e:AD}{op ln co:Int}{tx:lU}{x:Er}(h:Bg n p s e op ln co tx k=.error x):x.2.2≠0:=by
 unfold Bg at h
 by_cases o1:(op==1)=true
 · rw[if_pos o1] at h
   cases h
 rw[if_neg o1] at h
 by_cases o2:(op==2)=true
 · rw[if_pos o2] at h
   cases h
 rw[if_neg o2] at h
 by_cases o3:(op==3)=true
 · rw[if_pos o3] at h
   cases h
 rw[if_neg o3] at h
 by_cases o4:(op==4)=true
 · rw[if_pos o4] at h
   cases h
 rw[if_neg o4] at h
 by_cases o5:(op==5)=true
 · rw[if_pos o5] at h
   exact fO h
 rw[if_neg o5] at h
 by_cases o6:(op==6)=true
 · rw[if_pos o6] at h
   split at h
   · rename_i h1;cases h;exact VP h1
   split at h
   · rename_i h1;cases h;exact Wf hp _ h1
   cases h
 rw[if_neg o6] at h
 by_cases o7:(op==7)=true
 · rw[if_pos o7] at h
   split at h
   · cases h
   simp only at h
   split at h
   · rename_i h1;cases h;exact hp h1
   cases h
 rw[if_neg o7] at h
 by_cases o8:(op==8)=true
 · rw[if_pos o8] at h
   split at h
   · cases h
   split at h
   · rename_i h1;cases h;exact hp h1
   exact YP hp _ h
 rw[if_neg o8] at h
 by_cases o9:(op==9)=true
 · rw[if_pos o9] at h
   split at h
   · split at h
     · rename_i h1;cases h;exact hp h1
     split at h
     · rename_i h1
       cases h
       split at h1
       · cases h1
       · exact QA h1
     exact hp h
   · cases h
 rw[if_neg o9] at h
 by_cases o10:(op==10)=true
 · rw[if_pos o10] at h
   split at h
   · split at h
     · rename_i h1;cases h;exact bG hp h1
     split at h
     · rename_i h1;cases h;exact QA h1
     exact hp h
   · cases h
 rw[if_neg o10] at h
 by_cases o11:(op==11)=true
 · rw[if_pos o11] at h
   split at h
   · split at h
     · rename_i h1;cases h;exact hp h1
     split at h
     · rename_i h1;cases h;exact Hy h1
     split at h
     · rename_i h1;cases h;exact hp h1
     split at h
     · rename_i h1;cases h;exact hp h1
     split at h
     · rename_i h1;cases h;exact Hy h1
     cases h
   · cases h
 rw[if_neg o11] at h
 by_cases o12:(op==12)=true
 · rw[if_pos o12] at h
   split at h
   · rename_i h1;cases h;exact QG hp _ h1
   cases h
 rw[if_neg o12] at h
 by_cases o13:(op==13)=true
 · rw[if_pos o13] at h
   split at h
   · rename_i h1;cases h;exact QG hp _ h1
   cases h
 rw[if_neg o13] at h
 by_cases o14:(op==14)=true
 · rw[if_pos o14] at h
   split at h
   · cases h
   split at h
   · rename_i h1;cases h;exact hp h1
   exact M3 hp _ h
 rw[if_neg o14] at h
 by_cases o15:(op==15)=true
 · rw[if_pos o15] at h
   split at h
   · cases h
   split at h
   · rename_i h1;cases h;exact hp h1
   exact M3 hp _ h
 rw[if_neg o15] at h
 by_cases o16:(op==16)=true
 · rw[if_pos o16] at h
   split at h
   · cases h
   split at h
   · rename_i h1;cases h;exact hp h1
   split at h
   · rename_i h1;cases h;exact Hy h1
   cases h
 rw[if_neg o16] at h
 split at h
 · cases h
 exact hp h
omit hp
theorem TW:∀n,xZ (BT n)
 |0=>λh=>by cases h;first|exact Zc|exact e4
 |n+1=>λh=>by
   unfold BT at h
   split at h
   · rename_i h1;cases h;exact gD (TW n) h1
   · split at h
     · rename_i h1;cases h;exact Lg h1
     · cases h
end
theorem PG{d:List (lU×Int)}{v:List (lU×T1)}:∀(k:Nd){x:Er},Fw d v k=.error x→x.2.2≠0
 |.nil,_,h=>by cases h
 |.cons op ln co tx nm k r,x,h=>by
   have ih1:=λ{x:Er}=>PG (d:=d) (v:=v) k (x:=x);have ih2:=λ{x:Er}=>PG (d:=d) (v:=v) r (x:=x);rw[H7] at h
   split at h
   · rename_i h1
     cases h
     unfold CB at h1
     split at h1
     · split at h1
       · cases h1
       · cases h1;exact Zc
     · split at h1
       · split at h1
         · rename_i h2;cases h1;exact ih1 h2
         · cases h1
       · cases h1;exact Zc
   · split at h
     · rename_i h2;cases h;exact ih2 h2
     · cases h
theorem ME{ln co:Int}:∀(k:Nd){v:Int}{m:List (lU×T1)}{self:Ty}{nums:List Int}{x:Er},D0 ln co k v m self nums=.error x→x.2.2≠0
 |.nil,_,_,_,_,_,h=>by cases h
 |.cons op _ _ tx _ _ r,v,m,self,nums,x,h=>by
   unfold D0 at h
   repeat' (split at h)
   · cases h;first|exact Zc|exact e4
   · exact ME r h
   · exact ME r h
variable {nums:List Int}{k:Nd}
theorem MC{d:List (lU×Int)}{m:List (lU×T1)}{out:T1}:∀(k:Nd){c:List (lU×Mk)}{x:Er},Dh d m out nums k c=.error x→x.2.2≠0
 |.nil,_,_,h=>by cases h
 |.cons op ln co tx _ kids r,c,x,h=>by
   unfold Dh at h
   repeat' (split at h)
   · cases h;first|exact Zc|exact e4
   · rename_i h1;cases h;exact PG _ h1
   · exact MC r h
   · exact MC r h
theorem gI{s:CS}{ln co:Int}{tx:lU}{x:Er}(h:FQ s ln co tx k=.error x):x.2.2≠0:=by
 unfold FQ at h
 split at h
 · cases h;first|exact Zc|exact e4
 · split at h
   · rename_i h1;cases h;exact ME _ h1
   · simp only at h
     split at h
     · rename_i h1;cases h;exact MC _ h1
     · cases h
theorem mO{s:CS}{e:AD}{op ln co:Int}{tx:lU}{x:Er}(h:CG s e op ln co tx k=.error x):x.2.2≠0:=by
 unfold CG at h
 repeat' (split at h)
 all_goals first
   |(cases h;done)
   |(cases h;first|exact Zc|exact gI (by assumption)|exact PG _ (by assumption)|exact TW _ (by assumption)|exact Hy (by assumption)|exact bG (TW _) (by assumption)|exact QA (by assumption))
theorem Q5:∀(k:Nd){s:CS}{e:AD}{out:List (lU×T1)}{x:Er},BH s e k out=.error x→x.2.2≠0
 |.nil,_,_,_,_,h=>by cases h
 |.cons op ln co tx nm k r,s,e,out,x,h=>by
   unfold BH at h
   split at h
   · rename_i h1;cases h;exact mO h1
   · exact Q5 r h
   · exact Q5 r h
theorem Zm{s:CS}:∀{l:List (lU×T1)}{x:Er},EY s l=.error x→x.2.2≠0
 | [],_,h=>by cases h
 |(n,t)::l,x,h=>by
   unfold EY at h
   split at h
   · rename_i h1;cases h;exact Lg h1
   · split at h
     · rename_i h1;cases h;exact Zm h1
     · cases h
theorem ZO{x:Er}(h:Ce k=.error x):x.2.2≠0:=by
 unfold Ce at h
 split at h
 · rename_i h1;cases h;exact Q5 k h1
 · exact Zm h
end Go.SP
namespace Go.Proofs.YtkahkniflkadoaaGreatDoor
open Go.SW Go.SP Go.RowKit Go.Proofs.Tryz
abbrev RB:=RI (List (lU×lU))
def D3(src:lU):RB:=bif (Dk src).2.2.2==0 then Ce (Dk src).1 else .error ((Dk src).2.1,(Dk src).2.2.1,(Dk src).2.2.2)
def oR:RB→Int×Int×Int
 |.error e=>e
 |.ok _=>(0,0,0)
def XR:RB→List (lU×lU)
 |.error _=>[]
 |.ok l=>l
abbrev rZ(r:RB)(x:Option Addr×Nat):Value:=.tuple #[.slice x.1 (XR r).length x.2,.agg #[.int .i64 (oR r).1,.int .i64 (oR r).2.1],.int .i64 (oR r).2.2]
def wT(r:RB)(w:World)(f:Fq):Value→World→Prop:=BO (α:=Option Addr×Nat) (rZ r) (λ_=>True) (λx=>[λw f=>IF w f (XR r) x.1 x.2]) w f
variable {f:Fq}{a:Option Addr}{w w':World}{src:lU}
theorem WJ.out{nds:Nd}{v:Value}(h:WJ nds w f v w'):wT (Ce nds) w f v w':=by
 obtain⟨f',hE,h⟩:=h
 cases hi:Ce nds with
 |error er =>
   rw[hi] at h;exact⟨(none,0),f',h,tQ,hE,⟨Nat.zero_le _,.inl rfl⟩,tQ⟩
 |ok bs =>
   rw[hi] at h;obtain⟨a,c,h1,h2⟩:=h;exact⟨(a,c),f',h1,tQ,hE,h2,tQ⟩
theorem Yh(w:World)(f:Fq)(hv:Vl w f)(hG:Fg w f)(nds:Nd)(na:Option Addr)(nc:Nat)(hwt:nds.wft)(hsz:nds.size≤200000)(htb:nds.txb)(hN:AU w f nds na nc) :
   B3 prog 7 #[.slice na nds.len nc] w (wT (Ce nds) w f):=(UZ w f hv hG nds na nc hwt hsz htb hN).mono λ_ _ h=>WJ.out h
theorem KZ(src:lU):yG (Dk src).1:=eY 200 src
theorem Kx(h:(Dk src).2.2.2=0):D3 src=Ce (Dk src).1:=by unfold D3;rw[h];rfl
theorem SN(h:(Dk src).2.2.2≠0):D3 src=.error ((Dk src).2.1,(Dk src).2.2.1,(Dk src).2.2.2):=by
 unfold D3;rw[show ((Dk src).2.2.2==0)=false by simpa using h];rfl
def YU:lU:=[40,100,101,102,32,105,100,32,40,102,110,32,40,120,41,32,120,41,41,32,40,100,101,102,32,114,32,40,114,101,102,32,49,41,41]
def Y2:lU:=[40,100,111,32,40,43,32,49,32,34,97,34,41,41]
def mK:List (lU×lU):=[([105,100],[40,45,62,32,39,97,32,39,97,41]),([114],[40,114,101,102,32,105,110,116,41])]
set_option maxRecDepth 100000 in
theorem nA:D3 YU=.ok mK:=kR
set_option maxRecDepth 100000 in
theorem kK:D3 Y2=.error (1,10,11):=kR
theorem len_app:∀(a b:Nd),(a.app b).len=a.len+b.len
 |.nil,b=>(Nat.zero_add _).symm
 |.cons _ _ _ _ _ _ r,b=>by show (r.app b).len+1=r.len+1+b.len;rw[len_app r b];omega
theorem IF.opn{l:List (lU×lU)}{c:Nat}(h:IF w f l a c)(hl:l≠[]):∃x:Nat×Nat,a=some ⟨x.1,x.2,none⟩∧Cs w f x.1 x.2 (bC l) :=
 h.2.elim (λh=>absurd h hl) λ⟨b,off,h1,h2⟩=>⟨(b,off),h1,h2⟩
end Go.Proofs.YtkahkniflkadoaaGreatDoor
namespace Go.Proofs.YtkahkniflkadoaaGreatDoor
open Go.SW Go.SP Go.RowKit Go.Lib
section
variable{P:Program}{w:World}
theorem QI{g:Nat}{t:TypeId}{k:IntKind}{zero:Array Value}(h:w.ShapedOpen P)(hg:g<P.globals.size)
   (h0:((begin P (λ_ _=>0) default).world.heap[g]?).bind Obj.row?=some (zero,t)) (hz:zero.size=1)
   (hb:P.buildable t=true) (hc:P.cellTypes P.depth t=some [t]) (hu:P.underlying t=some (.int k)):∃m,w.cell? ⟨g,0,none⟩=some (.int k m):=by
 obtain⟨cs,hh,hs,hr⟩:=h.1 g zero t hg h0;obtain⟨ts,hts,_,hall⟩:=hr hb;rw[hc] at hts
 cases hts
 have h1:0<cs.size:=oM;obtain⟨u,hu',hok⟩:=hall 0 cs[0] (by simp[h1]);have:u=t:=by simpa using hu'.symm
 subst this;have hcell:w.cell? ⟨g,0,none⟩=some cs[0]:=by simp[World.cell?,hh,h1]
 rw[hcell];unfold Cell.ok at hok;rw[hu] at hok
 cases hv:cs[0] with
 |int k' m =>
   rw[hv] at hok
   have hk:k'=k:=by
     simp at hok;exact hok.1
   exact⟨m,by rw[hk]⟩
 |_=>rw[hv] at hok;simp at hok
theorem IJ{n:String}{g:Nat}{cs:Array Value}(hg:P.globalNamed n=some g)(hv:w.var? P n=some cs)(o:Nat):w.cell? ⟨g,o,none⟩=cs.toList[o]?:=by
 rw[World.var?_cell hg hv o,Array.getElem?_toList]
theorem UC{n:String}{g:Nat}{t:TypeId}{b:Bool}(hn:P.globalNamed n=some g)(hy:(P.globals[g]?).map (·.type)=some t)(ht:P.underlying t=some .bool)(h:VarReads P w n (.lit (.bool b))):w.cell? ⟨g,0,none⟩=some (.bool b):=by
 obtain⟨g',t',cs,fuel,p,hg,hty,hvar,hd⟩:=h;obtain rfl:=Option.some.inj (hn.symm.trans hg);obtain rfl:=Option.some.inj (hy.symm.trans hty);obtain⟨b',hc,hx⟩:=DataW.trod_bool ht hd;rw[IJ hn hvar,hc]
 cases hx
 rfl
theorem SI{n:String}{g:Nat}{t:TypeId}{ms}{d:DataW Unit}(hn:P.globalNamed n=some g)(hy:(P.globals[g]?).map (·.type)=some t)(ht:P.underlying t=some (.interface ms))(h:VarReads P w n d) :
   ∃v,w.cell? ⟨g,0,none⟩=some v∧(v=.nilIface∨∃te pe,v=.iface te pe):=by
 obtain⟨g',t',cs,fuel,p,hg,hty,hvar,hd⟩:=h;obtain rfl:=Option.some.inj (hn.symm.trans hg);obtain rfl:=Option.some.inj (hy.symm.trans hty);rw[IJ hn hvar]
 cases fuel with
 |zero=>simp[DataW.trod] at hd
 |succ fuel =>
   unfold DataW.trod at hd;rw[ht] at hd;generalize cs.toList=l at hd
   split at hd
   all_goals first
     |(rename_i heq;cases heq;done)
     |(rename_i h1 h2;cases h1;done)
     |(exact⟨_,rfl,.inl rfl⟩)
     |(exact⟨_,rfl,.inr ⟨_,_,rfl⟩⟩)
     |cases hd
theorem TN{n:String}{g:Nat}{t:TypeId}{fs:Array Field}{f:Field}{k:IntKind}{z:Int}{ds:List (DataW Unit)}(hn:P.globalNamed n=some g)(hy:(P.globals[g]?).map (·.type)=some t)(ht:P.underlying t=some (.struct fs))
   (hf:fs[0]?=some f) (hfo:f.offset=0) (hft:P.underlying f.type=some (.int k)) (hfc:P.cellsOf f.type=1) (h:VarReads P w n (.agg (.lit (.int k z)::ds))):w.cell? ⟨g,0,none⟩=some (.int k z):=by
 obtain⟨g',t',cs,fuel,p,hg,hty,hvar,hd⟩:=h;obtain rfl:=Option.some.inj (hn.symm.trans hg);obtain rfl:=Option.some.inj (hy.symm.trans hty);obtain⟨xs,m,rfl,hx,hl,hxl,hall⟩:=DataW.trod_struct ht hd;have h0:=hall 0 f hf;have e0:xs.map (·.1)=.lit (.int k z)::ds:=by have:=congrArg Prod.fst hx;simpa using this.symm
 cases xs with
 |nil=>cases e0
 |cons x xs =>
   simp only[List.map_cons,List.cons.injEq] at e0;obtain⟨z',hz,hz2,_⟩:=DataW.trod_int hft (h0.trans (by rfl));rw[IJ hn hvar]
   have hzz:z'=z:=by
     have:=hz2▸e0.1;simpa using this
   subst hzz;rw[hfo,hfc,List.drop_zero] at hz
   cases hcs:cs.toList with
   |nil=>rw[hcs] at hz;cases hz
   |cons c r=>rw[hcs] at hz;simp at hz;simp[hz]
variable {e:TypeId}
theorem Sy{n:String}{g:Nat}{t:TypeId}{l:List (DataW Unit)}{c:Nat}{m:Int}(hn:P.globalNamed n=some g)(hy:(P.globals[g]?).map (·.type)=some t)(ht:P.underlying t=some (.array 256 e))(he:P.underlying e=some (.int .u8))(hc1:P.cellsOf e=1)
   (h:VarReads P w n (.agg l)) (hc:c<256) (hl:l[c]?=some (.lit (.int .u8 m))):w.cell? ⟨g,c,none⟩=some (.int .u8 m):=by
 obtain⟨g',t',cs,fuel,p,hg,hty,hvar,hd⟩:=h;obtain rfl:=Option.some.inj (hn.symm.trans hg);obtain rfl:=Option.some.inj (hy.symm.trans hty);obtain⟨xs,k,rfl,hx,hcl,hxl,hall⟩:=DataW.trod_array ht hd;have e0:xs.map (·.1)=l:=by have:=congrArg Prod.fst hx;simpa using this.symm
 have h1:=hall c hc;rw[hc1,Nat.mul_one] at h1;have hxc:xs[c]?=some (xs[c]'oM):=List.getElem?_eq_getElem oM;rw[hxc] at h1;obtain⟨z,hz,hz2,_⟩:=DataW.trod_int he h1;have e1:l[c]?=some ((xs[c]'oM).1):=by rw[← e0,List.getElem?_map,hxc];rfl
 rw[e1,hz2] at hl;have hzm:z=m:=by simpa using hl
 subst hzm;rw[IJ hn hvar];have h2:((cs.toList.drop c).take 1)[0]?=some (.int .u8 z):=by rw[hz];rfl
 rw[List.getElem?_take] at h2;simpa using h2
theorem Qi{n:String}{g:Nat}{t:TypeId}{k:FloatKind}{l:List Nat}(hn:P.globalNamed n=some g)(hy:(P.globals[g]?).map (·.type)=some t)(ht:P.underlying t=some (.slice e))(he:P.underlying e=some (.float k))(hc:P.cellsOf e=1)
   (hl:0<l.length) (h:VarReads P w n (.slice (l.map λx=>.lit (.float k x)) [])):∃b off len cap,w.cell? ⟨g,0,none⟩=some (.slice (some ⟨b,off,none⟩) len cap)∧l.length≤len∧∀(j v:Nat),l[j]?=some v→w.cell? ⟨b,off+j,none⟩=some (.float k v):=by
 obtain⟨g',t',cs,fuel,p,hg,hty,hvar,hd⟩:=h;obtain rfl:=Option.some.inj (hn.symm.trans hg);obtain rfl:=Option.some.inj (hy.symm.trans hty);rcases DataW.trod_slice ht hd with ⟨_,hx⟩|⟨a,len,cap,el,rs,m,rfl,hcs,hx,_,hlc,_,hel,helem,hsp,_⟩
 · cases hx
 have e0:=congrArg Prod.fst hx;simp only[DataW.slice.injEq] at e0;have hlen:len=l.length:=by have:=congrArg List.length e0.1;simp at this;omega
 have hcell:∀(j v:Nat),l[j]?=some v→w.cell? (a.add j)=some (.float k v):=by
   intro j v hv;obtain⟨hj,hjv⟩:=List.getElem?_eq_some_iff.1 hv;have h1:=helem j oM;rw[hc,Nat.mul_one] at h1;obtain⟨b,hb⟩:∃b,el[j]?=some b:=⟨el[j]'oM,List.getElem?_eq_getElem oM⟩;rw[hb] at h1;obtain⟨ce,hce,hte⟩:=Option.bind_eq_some_iff.1 h1
   have hb1:b.1=.lit (.float k v):=by
     have:=congrArg (·[j]?) e0.1;simp[hb,hv] at this;exact this.symm
   have hce2:ce=[.float k v]:=by
     cases m with
     |zero=>simp[DataW.trod] at hte
     |succ m =>
       unfold DataW.trod at hte;rw[he] at hte
       split at hte <;> simp_all
       obtain⟨⟨rfl,_⟩,rfl⟩:=hte;simpa using hb1
   obtain⟨_,_,hcc⟩:=World.cells?_some hce;have h0:=hcc 0 oM;rw[hce2] at h0;have e1:(a.add j).add 0=a.add j:=by simp[Addr.add]
   rw[e1] at h0;exact h0
 obtain⟨R,o,sR⟩:=a
 obtain rfl:sR=none:=by
   obtain⟨v0,hv0⟩:∃v,l[0]?=some v:=⟨l[0],List.getElem?_eq_getElem hl⟩;have h00:=hcell 0 v0 hv0;have:(Addr.add ⟨R,o,sR⟩ 0)=⟨R,o,sR⟩:=by simp[Addr.add]
   rw[this] at h00;exact Go.Proofs.cell_spot h00
 refine⟨R,o,len,cap,?_,oM,λj v hv=>?_⟩
 · rw[IJ hn hvar,hcs];rfl
 · have:=hcell j v hv
   rwa[Ew] at this
end
end Go.Proofs.YtkahkniflkadoaaGreatDoor
namespace Go.SW
open Go.RowKit
def gO(w:World):Fq:=λb=>match w.heap[b]? with
 |some (.cells cs _ _)=>cs.size
 |_=>0
theorem lR(w:World):Vl w (gO w):=λb h=>by
 unfold gO;rw[Array.getElem?_eq_none h]
variable {b o:Nat}{w:World}
theorem Nc{v:Value}(h:w.cell? ⟨b,o,none⟩=some v):o<gO w b:=by
 unfold gO;unfold World.cell? at h
 cases hb:w.heap[b]? with
 |none=>rw[hb] at h;cases h
 |some x =>
   rw[hb] at h
   cases x with
   |cells c e fr=>simpa using (Array.getElem?_eq_some_iff.1 h).1
   |_=>cases h
end Go.SW
namespace Go.Proofs.YtkahkniflkadoaaGreatDoor
open Go.SW Go.SP Go.RowKit Go.Lib Go.ChangeShapes Go.WideShapes Go.ChangeAt
theorem own:ownKnob Tryz.prog.godebug=none:=kR
def Uu:List Nat:=[4607182418800017408,4621819117588971520,4636737291354636288,4652007308841189376,4666723172467343360,4681608360884174848,4696837146684686336,4711630319722168320,4726483295884279808,4741671816366391296,4756540486875873280,4771362005757984768,4786511204640096256,4801453603149578240,4816244402031689728,4831355200913801216,4846369599423283200,4861130398305394688,4876203697187506176,4891288408196988160,4906019910204099648,4921056587992461136,4936209963552724370]
variable {args:Array Value}{fid:FuncId}{j:Nat}{W:World}
theorem WA{v:Nat}(h:Gk[j]?=some v):Uu[j]?=some v:=by
 have e:Gk=Uu.take 15:=rfl;rw[e,List.getElem?_take] at h
 split at h
 · exact h
 · cases h
abbrev VZ:List (String×DataW Unit):=Rows.inferMoreRow.laid
theorem KV(k:Nat){n:String}{d:DataW Unit}(h:laidMet Tryz.prog VZ W)(hk:VZ[k]?=some (n,d):=by rfl):VarReads Tryz.prog W n d:=laidMet.reads h (List.mem_of_getElem? hk)
theorem jX:(Rows.laid_strings_asciiSpace:DataW Unit)=.agg ((List.range 256).map λc=>.lit (.int .u8 (if Lib.isSp (UInt8.ofNat c) then 1 else 0))):=kR
theorem sO(h:laidMetH Tryz.prog VZ W)(hS:W.ShapedOpen Tryz.prog):Gl W∧∀c:Nat,c<256→W.cell? ⟨0,c,none⟩=some (.int .u8 (if Lib.isSp (UInt8.ofNat c) then 1 else 0)):=by
 rw[MakeChecks.laidMetH_plain _ _ _ (by kernel_rfl)] at h;refine⟨⟨?_,?_,?_,?_,?_⟩,?_⟩
 · exact QI (t:=3) (zero:=#[.int .i64 0]) hS (of_decide_eq_true kR) kR kR kR kR Tryz.underlying3
 · obtain⟨ms,hm⟩:=HN (show aK Tryz.prog 171=true by kernel_rfl)
   exact SI (t:=171) kR kR hm (KV 10 h)
 · exact UC (t:=4) kR kR Tryz.underlying4 (KV 4 h)
 · exact TN (t:=267) kR kR (fs:=Tryz.prog.fieldsOf 267) kR (f:=(Tryz.prog.fieldsOf 267)[0]!) kR kR kR kR
     (KV 3 h)
 · obtain⟨b,off,n,c,h1,h2,h3⟩:=Qi (l:=Uu) kR kR (t:=302) (e:=181) kR kR kR dC (KV 6 h)
   exact⟨b,off,n,c,h1,Nat.le_trans dC h2,λj v hv=>h3 j v (WA hv)⟩
 · intro c hc
   have hr:=KV 13 h;rw[jX] at hr;exact Sy (t:=156) (e:=5) kR kR kR kR kR hr hc (by rw[List.getElem?_map,List.getElem?_range hc];rfl)
theorem iP(h:laidMetH Tryz.prog VZ W)(hS:W.ShapedOpen Tryz.prog):Dl W (gO W)∧Fg W (gO W):=by
 obtain⟨⟨⟨m,hm⟩,⟨v,h1,h2⟩,h3,h4,⟨b,off,n,c,h5,h6,h7⟩⟩,h8⟩:=sO h hS;refine⟨λw' f' hF=>?_,⟨m,λj v hj=>?_⟩,λc hc=>⟨Nc (h8 c hc),h8 c hc⟩⟩
 · have k:∀{b o:Nat}{v:Value},W.cell? ⟨b,o,none⟩=some v→w'.cell? ⟨b,o,none⟩=some v:=λ{b o v} h=>((hF b).2 o (Nc h)).trans h
   exact⟨⟨m,k hm⟩,⟨v,k h1,h2⟩,k h3,k h4,⟨b,off,n,c,k h5,h6,λj v hv=>k (h7 j v hv)⟩⟩
 · cases j with
   |zero=>cases hj;exact⟨Nc hm,hm⟩
   |succ j=>cases hj
theorem ZT(h:B3 Tryz.prog fid args W (BO (α:=Unit) (λ_=>.bool true) (λ_=>True) (λ_=>[]) W (gO W))):B3 Tryz.prog fid args W λv w'=>v=.bool true∧AR W w' :=
 h.mono λ_ _ ⟨_,_,h1,_,h2,_⟩=>⟨h1,h2.stp.ext⟩
end Go.Proofs.YtkahkniflkadoaaGreatDoor
namespace Go.Proofs.YtkahkniflkadoaaGreatDoor
open Go.SW Go.SP Go.RowKit Go.Proofs.Tryz
theorem JY(w:World)(f:Fq)(hv:Vl w f)(hJ:Dl w f)(hG:Fg w f)(src:lU) :
   B3 prog 5 #[S src] w (wT (D3 src) w f):=by
 refine CV (X:=X0 w f) (H:=[]) (R:=[]) (B:=[]) (Fs:=[λw f=>Dl w f,λw f=>Fg w f]) (f:=f) func5 rfl rfl rfl (Cz hv ⟨hJ,hG,tQ⟩ ⟨Dl.mono,Fg.mono,tQ⟩)<|Aa 10 [] (λb1=>λ_=>By rfl rfl (eC vF rfl rfl) (λw f hM=>aD w f hM.vl hM.f0 src) (λ_=>⟨AU.mono,tQ⟩) ?_);rintro⟨na,nc⟩ -;dsimp only;refine Aa 17 [0] (λb2=>y<|λ_=>AZ 15 rfl rfl (λh1=>?_) (λh1=>?_));refine Aa 2 [] (λ_=>CU [0] Aq (rd [0,1,2] (.br 3 (.rd 4 .fin) .fin)) rfl kR<|A6 3 [0] (y<|λ_=>Ag rfl ?_ Aj));exact Aa 2 [1] (y<|λ_=>Ax [0] rfl<|A6 1 [] (λ_=>Bo<|Aa 3 [] (λ_=>AV (λw f hM=>Ed rfl (Ak rfl) (Ae rfl GH hM.k1 rfl) (Ak rfl)) (λw f hM=>(by rw[SN (by simpa using h1)];exact⟨(none,0),f,rfl,tQ,hM.exm,⟨Nat.zero_le _,.inl rfl⟩,tQ⟩)))));refine Aa 6 [] (λ_=>By rfl rfl (eC uF rfl rfl) (λw f hM=>Yh w f hM.vl hM.f2 _ na nc (KZ src).wft (KZ src).size (KZ src).txb hM.f0) (λ_=>⟨IF.mono,tQ⟩) ?_);rintro⟨a,c⟩ -;exact Aa 9 [1] (y<|λ_=>AV (λw f hM=>Ed rfl (Ak rfl) (Ae rfl GH hM.k1 rfl) (Ak rfl)) (λw f hM=>(by rw[Kx (by simpa using h1)];exact⟨(a,c),f,rfl,tQ,hM.exm,hM.f0,tQ⟩)))
theorem Ru(w:World)(f:Fq)(hv:Vl w f)(hJ:Dl w f)(hG:Fg w f):B3 prog 5 #[S YU] w (BO (α:=Option Addr×Nat) (λx=>.tuple #[.slice x.1 2 x.2,.agg #[iV 0,iV 0],iV 0]) (λ_=>True) (λx=>[λw f=>IF w f mK x.1 x.2]) w f):=by
 have h:=JY w f hv hJ hG YU;rw[nA] at h;exact h
theorem Sd(w:World)(f:Fq)(hv:Vl w f)(hJ:Dl w f)(hG:Fg w f):B3 prog 5 #[S Y2] w (BO (α:=Option Addr×Nat) (λx=>.tuple #[.slice x.1 0 x.2,.agg #[iV 1,iV 10],iV 11]) (λ_=>True) (λx=>[λw f=>IF w f ([]:List (lU×lU)) x.1 x.2]) w f):=by
 have h:=JY w f hv hJ hG Y2;rw[kK] at h;exact h
theorem IG(w:World)(f:Fq)(hv:Vl w f)(hJ:Dl w f)(hG:Fg w f) :
   B3 prog 4 #[] w (BO (α:=Unit) (λ_=>.bool true) (λ_=>True) (λ_=>[]) w f):=by
 refine CV (X:=X0 w f) (H:=[]) (R:=[]) (B:=[]) (Fs:=[λw f=>Dl w f,λw f=>Fg w f]) (f:=f) func4 rfl rfl rfl (Cz hv ⟨hJ,hG,tQ⟩ ⟨Dl.mono,Fg.mono,tQ⟩)<|Aa 7 [] (λ_=>By rfl rfl (eC R6 rfl rfl) (λw f hM=>Ru w f hM.vl hM.f0 hM.f1) (λ_=>⟨IF.mono,tQ⟩) ?_);rintro⟨ba,bc⟩ -;refine LQ (α:=Nat×Nat) (λx=>ba=some ⟨x.1,x.2,none⟩) (λx=>[⟨x.1,x.2,bC mK⟩]) (λx=>[]) (λw f hM=>let ⟨x,h1,h2⟩:=IF.opn hM.f0 (List.cons_ne_nil _ _);⟨x,h1,oE h2,nE⟩) (λx=>Az.mem tQ) ?_;rintro⟨eb,eo⟩ rfl;refine Aa 12 [0] (λb1=>y<|λ_=>By rfl rfl (eC R6 rfl rfl) (λw f hM=>Sd w f hM.vl hM.f1 hM.f2) (λ_=>⟨IF.mono,tQ⟩) ?_);rintro⟨da,dc⟩ -;exact Aa 40 [0,100,1,100,3,0] (λb2=>y<|aI dC<|y2<|aI dC<|y2<|y<|λ_=>Fm rfl rfl (λw f hM=>Ze nZ rfl rfl)<|Aa 5 [] (λ_=>AV (Dx rfl rfl) (λw f hM=>⟨(),f,rfl,tQ,hM.exm,tQ⟩)))
end Go.Proofs.YtkahkniflkadoaaGreatDoor
namespace Go.SP
open Go.SW Go.RowKit
theorem Ij{b:Bn}:∀{j k:Nat}{x:Ty},BG b j x=true→j≤k→BG b k x=true
 |j,k,.nil,_,_=>by cases k <;> rfl
 |0,_,.var _ _,h,_=>by cases h
 |0,_,.con _ _ _,h,_=>by cases h
 |j+1,0,.var _ _,_,hk=>by omega
 |j+1,0,.con _ _ _,_,hk=>by omega
 |j+1,k+1,.var n r,h,hk=>by
   simp only[BG] at h ⊢
   cases hh:Ah b (.var n) with
   |var q=>rw[hh] at h;exact Ij h oM
   |con tx ks=>rw[hh] at h;exact Ij h oM
 |j+1,k+1,.con tx ks r,h,hk=>by
   simp only[BG] at h ⊢;exact Ij h oM
theorem Uy{b:Bn}{k:Nat}{a r:Ty}(h:BG b k (a.app r)=true):BG b k r=true:=by
 rw[Dp,Hp] at h
 cases hj:Bx b k a with
 |none=>rw[hj] at h;cases h
 |some j =>
   rw[hj] at h;have h1:=Eh b k a j hj;have h2:BG b j r=true:=by rw[Dp];exact h
   exact Ij h2 h1
theorem S4{b:Bn}(hw:QR b){n:Int}{t:T1}(hn:AW b n=none)(ht:Ah b t=t)(hf:Cv b n 1000 t.one=true):QR ((n,t)::b):=by
 refine⟨hn,λm hm=>?_,hw⟩;subst hm;refine⟨λe=>?_,F3 hw ht⟩;have:=HQ b n 999 (.var m);rw[hf,ht,e] at this;simp[Tu] at this
def SR(b b':Bn):Prop:=QR b→QR b'∧∀k x,BG b' k x=true→BG b k x=true
theorem SR.refl(b:Bn):SR b b:=λh=>⟨h,λ_ _ h=>h⟩
theorem SR.trans{a b c:Bn}(h1:SR a b)(h2:SR b c):SR a c:=λh=>⟨(h2 (h1 h).1).1,λk x hx=>(h1 h).2 k x ((h2 (h1 h).1).2 k x hx)⟩
end Go.SP
