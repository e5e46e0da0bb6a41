/- InferFirsts: of every text and number the law answers true; for every world in which the listed package variables hold what the text lays. -/
import Derived.Test.YthofplgbhecdcaaGreatDoorGf6
import Derived.Test.YthofplgbhecdcaaGreatDoorCards
import Derived.Test.YthofplgbhecdcaaGreatDoorTie
import Derived.OpenShut
import Derived.Lib.LaidU8
import Derived.Clock
import Derived.ProofKit
import Derived.Lay
import Derived.Stop.Joined
import Derived.Deep.DeepHandedRow
import Derived.ChangeMaps5
set_option linter.unusedVariables false
set_option linter.unusedSimpArgs false
namespace Go.Proofs.YthofplgbhecdcaaGreatDoor
open Go.SW Go.SP Go.RowKit
def rT:Ea:=⟨[(89,1,1),(89,3,3),(92,0,0),(64,1,1),(89,0,0),(64,4,4),(96,0,0),(96,2,2)],[(86,89,4),(52,56,4),(93,96,6),(90,3,1)],[],[],[(89,true,4),(9,false,1),(92,true,6),(3,false,1),(52,false,1),(96,true,6),(56,true,4)],[(64,[.pointer none,.map none,.map none,.map none,.int .i64 0]),(89,[.string ⟨#[]⟩,.string ⟨#[]⟩,.int .i64 0,.int .i64 0]),(92,[.slice none 0 0,.int .i64 0,.int .i64 0,.string ⟨#[]⟩,.slice none 0 0,.slice none 0 0]),(56,[.int .i64 0,.int .i64 0,.string ⟨#[]⟩,.slice none 0 0]),(96,[.string ⟨#[]⟩,.int .i64 0,.int .i64 0,.int .i64 0,.string ⟨#[]⟩,.slice none 0 0]),(3,[.int .i64 0]),(100,[.int .i64 0,.int .i64 0,.string ⟨#[]⟩,.slice none 0 0,.slice none 0 0]),(102,[.string ⟨#[]⟩,.int .i64 0,.int .i64 0,.string ⟨#[]⟩,.slice none 0 0,.slice none 0 0,.pointer none])],[(64,[(0,1),(1,1),(2,1),(3,1),(4,1)]),(92,[(0,1),(1,4),(5,1)]),(100,[(0,4),(4,1)]),(102,[(0,1),(1,5),(6,1)])],[]⟩
theorem As:rT.Ok Tryz.prog:=⟨(And.intro ZN (And.intro bK (And.intro Q5 (And.intro PH (And.intro cL (And.intro V9 (And.intro cA (And.intro aN trivial)))))))),(And.intro eL (And.intro DI (And.intro dZ (And.intro KZ trivial)))),trivial,trivial,(And.intro mE (And.intro Hx (And.intro XH (And.intro CZ (And.intro H0 (And.intro nA (And.intro AJ trivial))))))),(And.intro mB (And.intro dT (And.intro XV (And.intro DD (And.intro eF (And.intro W1 (And.intro Xi (And.intro X1 trivial)))))))),(And.intro oS (And.intro dE (And.intro XW (And.intro Yj trivial)))),trivial⟩
def Q0(p:Sg):Bd:=⟨p.1,C9 p.2.2 [1] (T1.var (0-1)).one,[0-1]⟩
def Hd(i:Nat):Bg:=((Cp.take i).map Q0).reverse
theorem We{i:Nat}{p:Sg}(h:Cp[i]?=some p):Hd (i+1)=Q0 p::Hd i:=by
 unfold Hd
 rw[D2 h,List.map_append,List.reverse_append]
 rfl
theorem QO:Hd Cp.length=Mv:=kR
theorem NO:∀p,p∈Cp→p.2.2.bnd:=by
 intro p hp
 simp only[Cp,List.mem_cons,List.not_mem_nil,or_false] at hp
 have h1:∀{l:List (T1×Option Addr×Nat)},Y6 l→(HR (SG l)).bnd:=fun h=>Vd (Qc h)
 have hv:=B7 1
 have h0:∀{t:List UInt8},t.length≤1000000→(c0 t).bnd:=fun h=>Df h
 have hr:(T1.con L7 (T1.var 1).one).bnd:=D0 dC dC trivial
 have hp2:(T1.con Dr (T1.var 1).one).bnd:=D0 dC dC trivial
 have bi:=h0 (t:=bI) dC
 have bf:=h0 (t:=bF) dC
 have bs:=h0 (t:=bS) dC
 have bb:=h0 (t:=bB) dC
 have bu:=h0 (t:=bU) dC
 repeat' (rcases hp with rfl|hp)
 all_goals first|(subst hp)|skip
 all_goals (refine h1 ?_;simp only[Y6,and_true];simp[*])
theorem RW{i:Nat}{nm dt:List UInt8}{nu:Int}{ar:Nat}(h:It[i]?=some (nm,dt,nu,ar)):ar≤1:=by
 have:∀p∈It,p.2.2.2≤1:=dC
 exact this _ (List.mem_of_getElem? h)
theorem Rj{i:Nat}{nm dt:List UInt8}{nu:Int}{ar:Nat}(h:It[i]?=some (nm,dt,nu,ar)):dt.length≤1000000:=by
 have:∀p∈It,p.2.1.length≤1000000:=dC
 exact this _ (List.mem_of_getElem? h)
theorem qK:DR (⟨[],0,Xd 0,[],[],0⟩:CS):=⟨trivial,fun _ _ h=>(by cases h),trivial,trivial,trivial,Int.le_refl _⟩
set_option maxHeartbeats 2000000 in
theorem TN(w:World)(f:Fq)(hv:Vl w f)(hG:FE w f) :
  BF Tryz.prog 14 #[] w (O0 (α:=Ad×Option Addr) (fun x=>.tuple #[.pointer (some ⟨x.1.cb,0,none⟩),.pointer x.2]) (fun x=>x.1.ok) (fun _=>False) (fun x=>BB x.1) (fun x=>Au 64 130 x.1 VO) (fun x=>[fun w f=>AN w f Mv x.2]) w f):=by
 refine Dg (X:=X0 w f) (H:=[]) (R:=[]) (B:=[]) (Fs:=[fun w f=>FE w f]) (f:=f) Tryz.func14 rfl rfl rfl (C7 hv ⟨hG,trivial⟩ ⟨FE.mono,trivial⟩)<|go As 8 [] (fun _=>bG (XX:=fun _ _=>False) rfl rfl (eC iQ rfl rfl) (fun w f hM=>(Xv w f hM.vl).retP) (fun _=>BL.stab (.inl rfl) (.inr rfl)) (fun _=>trivial) (fun _ _ _ _ _ h=>h.elim) ?_)
 rintro⟨sb,mb⟩ hsm
 dsimp only at hsm ⊢
 refine YY (K:=CE) rfl rfl fun km hkm=>YY (K:=CE) rfl rfl fun dm hdm=>YY (K:=CE) rfl rfl fun rm hrm=>go As 7 [] (fun b1=>fun _=>Ky (fun w f hM=>(hM.own b1 (.head _)).2.2) fun hcb=>mY 0 rfl rfl ?_)
 obtain⟨A,rfl,rfl,rfl,rfl,rfl,rfl⟩:∃A:Ad,A.cb=b1∧A.sb=sb∧A.mb=mb∧A.km=km∧A.dm=dm∧A.rm=rm:=⟨⟨b1,sb,mb,km,dm,rm⟩,rfl,rfl,rfl,rfl,rfl,rfl⟩
 have hA:A.ok:=⟨fun e=>hcb (.inl (.inl (.inl (.inl e)))),⟨fun e=>hcb (.inl (.inl (.inl (.inr e)))),fun e=>hcb (.inl (.inl (.inr e))),fun e=>hcb (.inl (.inr e)),fun e=>hcb (.inr e)⟩,⟨hsm,fun e=>hkm (.inl e.symm),fun e=>hdm (.inl (.inl e.symm)),fun e=>hrm (.inl (.inl (.inl e.symm)))⟩,⟨fun e=>hkm (.inr e.symm),fun e=>hdm (.inl (.inr e.symm)),fun e=>hrm (.inl (.inl (.inr e.symm))),fun e=>hdm (.inr e.symm),fun e=>hrm (.inl (.inr e.symm)),fun e=>hrm (.inr e.symm)⟩⟩
 refine sX (BB A) (Au 64 130 A (⟨[],0,Xd 0,[],[],0⟩:CS)) (fun b h=>by rcases h with h|h|h|h|h|h;exact .inr h;exact .inl (.inl (.inl (.inl (.inl h))));exact .inl (.inl (.inl (.inl (.inr h))));exact .inl (.inl (.inl (.inr h)));exact .inl (.inl (.inr h));exact .inl (.inr h)) (fun w f h=>⟨h.2,⟨0,h.1.1.1.1⟩,⟨[],h.1.1.1.2,rfl⟩,h.1.1.2,h.1.2⟩) Au.stab<|go As 1 [] (fun _=>B8 rfl rfl (eC lD rfl rfl) (fun w f hM=>U3 w f hM.vl) (fun x=>⟨fun _ _ _ _ h hF=>Cs.mono h hF,trivial⟩) ?_)
 rintro kb -
 refine go As 5 [] (fun _=>?_)
 refine H9 (α:=Nat) (fun i=>8-i) (fun i=>i≤8∧DR (⟨[],0,Xd i,[],[],0⟩:CS)) (fun i=>(E4 2 (.pointer (some ⟨A.cb,0,none⟩)) 15 (.slice (some ⟨kb,0,none⟩) 8 8) 16 (.int .i64 ((8:Nat):Int)) 17 (.int .i64 (i:Int)))) (fun i=>⟨fun _=>False,BB A,Au 64 130 A (⟨[],0,Xd i,[],[],0⟩:CS),w,f⟩) (fun i=>[]) (fun i=>[]) (fun i=>[]) (fun i=>[fun w f=>Cs w f kb 0 Q4,fun w f=>FE w f]) (0) ⟨Nat.zero_le _,qK⟩ lE (fun w f hM=>hM.less sR sR nE (mR [0,1])) ?_
 rintro i ⟨hi,hwi⟩
 refine go As 6 [] (fun _=>AZ 18 rfl rfl (fun h1=>?_) (fun h1=>?_))
 refine go As 6 [] (fun _=>?_)
 have hil:i<8:=by have:=of_decide_eq_true h1;omega
 obtain⟨⟨nm,dt,nu,ar⟩,hx⟩:∃v,It[i]?=some v:=⟨_,List.getElem?_eq_getElem (l:=It) hil⟩
 have har:ar≤1:=RW hx
 refine CB (α:=Unit) (fun x=>True) (fun x=>[⟨kb,0+i*4,cC (nm,dt,nu,ar)⟩]) (fun x=>[]) (fun w f hM=>⟨(),trivial,(fun e he=>by cases he with|head=>exact Cs.flat cC 4 (fun _=>rfl) It 0 i _ hM.f0 hx|tail _ h=>cases h),fun _ h=>by cases h⟩) (fun x=>Af.mem trivial) ?_
 rintro⟨⟩ -
 refine go As 11 [100,0,0,0] (And.intro oM<|y2<|fun b2=>y<|y<|fun _=>B8 rfl rfl (eC B5 rfl rfl) (fun w f hM=>Bx w f hM.vl dt) (fun x=>trivial) ?_)
 rintro⟨⟩ -
 refine go As 14 [0,1] (fun b3=>y<|y<|fun _=>QJ 56 4 ?_)
 refine H9 (α:=Nat×List Value×Option Addr×Nat) (fun x=>ar-x.1) (fun x=>x.1≤ar) (fun x=>(E8 2 (.pointer (some ⟨A.cb,0,none⟩)) 4 (.pointer (some ⟨b2,0,none⟩)) 5 (.pointer (some ⟨b3,0,none⟩)) 15 (.slice (some ⟨kb,0,none⟩) 8 8) 16 (.int .i64 ((8:Nat):Int)) 17 (.int .i64 (i:Int)) 26 (.int .i64 (ar:Int)) 27 (.int .i64 (x.1:Int)))) (fun x=>⟨fun _=>False,BB A,Au 64 130 A (⟨[],0,Xd i,[],[],0⟩:CS),w,f⟩) (fun x=>[⟨b3,[.slice x.2.2.1 x.1 x.2.2.2,.int .i64 1,.int .i64 0,S dt,.slice none 0 0,.slice none 0 0],92,true⟩,⟨b2,cC (nm,dt,nu,ar),89,true⟩]) (fun x=>[⟨56,4,x.2.2.1,x.2.2.2,x.1,x.2.1⟩]) (fun x=>[]) (fun x=>[fun w f=>Bl w f (N8 x.1) x.2.1,fun w f=>Cs w f kb 0 Q4,fun w f=>FE w f]) (0,[],none,0) (Nat.zero_le _) lE (fun w f hM=>hM.more (B':=[]) (F':=[fun w f=>Bl w f .nil []]) nE (A1.mem ⟨rfl,trivial⟩) (Af.mem ⟨Bl.mono,trivial⟩) |>.less (sK (sK sZ)) sR nE (mR [0,1,2])) ?_
 rintro⟨j,xs,ra,rc⟩ hj
 dsimp only at hj ⊢
 have hj0:=hj
 refine go As 6 [] (fun _=>AZ 28 rfl rfl (fun h2=>?_) (fun h2=>?_))
 refine go As 5 [] (fun _=>?_)
 have hjl:j<ar:=by have:=of_decide_eq_true h2;omega
 refine Dj [1] Ap (.rd 0 (.br 1 (.br 2 (.br 3 (.br 4 (.rd 5 (.br 6 .fin .fin)) .fin) .fin) .fin) (.br 2 (.br 1 (.br 3 (.br 4 (.rd 5 (.br 6 .fin .fin)) .fin) .fin) (.br 3 (.br 1 (.br 4 (.rd 5 (.br 6 .fin .fin)) .fin) .fin) .fin)) .fin))) rfl kR<|AA As 1 [] (fun _=>Ag rfl ?_ ?_)
 refine go As 2 [0] (y<|fun _=>Ax [1] rfl<|Ag rfl ?_ Ai)
 refine B8 rfl rfl (eC B5 rfl rfl) (fun w f hM=>Bx w f hM.vl [115,116,114,105,110,103]) (fun x=>trivial) ?_
 rintro⟨⟩ -
 refine go As 1 [] (fun _=>Ax [1] rfl<|Ag rfl ?_ Ai)
 refine go As 2 [] (fun b4=>fun _=>Ax [2] rfl<|Ag rfl ?_ Ai)
 refine DH 0 0 rfl rfl Dq rfl rfl rfl rfl rfl rfl rfl rfl (fun _ _=>rfl) oM oM fun ra2 rc2=>go As 1 [] (fun _=>Ax [2] rfl<|AA As 1 [] (fun _=>Ag rfl ?_ Ai))
 exact go As 2 [1] (y<|fun _=>Ax [2] rfl<|B3<|go As 6 [] (And.intro ⟨oM,oM⟩<|fun _=>Eb ((j+1,xs++tC (c0 bS) none 0,ra2,rc2)) (show ar-(j+1)<ar-j by omega) (show j+1≤ar by omega) lE (fun w f hM=>⟨_,(hM.more (B':=[]) (F':=[fun w f=>Bl w f (N8 (j+1)) (xs++tC (c0 bS) none 0)]) nE (A1.mem ⟨Bl.snoc (Ah.nil _ _ _ _) hM.f0,trivial⟩) (Af.mem ⟨Bl.mono,trivial⟩)).less (sD (sK (sK sZ))) sR nE (mR [0,2,3])⟩)))
 refine Ag rfl ?_ Ai
 refine B8 rfl rfl (eC B5 rfl rfl) (fun w f hM=>Bx w f hM.vl [115,116,114,105,110,103]) (fun x=>trivial) ?_
 rintro⟨⟩ -
 refine go As 1 [] (fun _=>Ax [1] rfl<|Ag rfl ?_ ?_)
 refine go As 2 [0] (y<|fun _=>Ax [1] rfl<|Ag rfl ?_ Ai)
 refine go As 2 [] (fun b5=>fun _=>Ax [2] rfl<|Ag rfl ?_ Ai)
 refine DH 0 0 rfl rfl Dq rfl rfl rfl rfl rfl rfl rfl rfl (fun _ _=>rfl) oM oM fun ra2 rc2=>go As 1 [] (fun _=>Ax [2] rfl<|AA As 1 [] (fun _=>Ag rfl ?_ Ai))
 exact go As 2 [1] (y<|fun _=>Ax [2] rfl<|B3<|go As 6 [] (And.intro ⟨oM,oM⟩<|fun _=>Eb ((j+1,xs++tC (c0 bS) none 0,ra2,rc2)) (show ar-(j+1)<ar-j by omega) (show j+1≤ar by omega) lE (fun w f hM=>⟨_,(hM.more (B':=[]) (F':=[fun w f=>Bl w f (N8 (j+1)) (xs++tC (c0 bS) none 0)]) nE (A1.mem ⟨Bl.snoc (Ah.nil _ _ _ _) hM.f0,trivial⟩) (Af.mem ⟨Bl.mono,trivial⟩)).less (sD (sK (sK sZ))) sR nE (mR [0,2,3])⟩)))
 refine Ag rfl ?_ Ai
 refine go As 2 [] (fun b6=>fun _=>Ax [2] rfl<|Ag rfl ?_ Ai)
 refine go As 2 [1] (y<|fun _=>Ax [2] rfl<|Ag rfl ?_ Ai)
 refine DH 0 0 rfl rfl Dq rfl rfl rfl rfl rfl rfl rfl rfl (fun _ _=>rfl) oM oM fun ra2 rc2=>go As 1 [] (fun _=>Ax [2] rfl<|AA As 1 [] (fun _=>Ag rfl ?_ Ai))
 exact go As 2 [1] (y<|fun _=>Ax [2] rfl<|B3<|go As 6 [] (And.intro ⟨oM,oM⟩<|fun _=>Eb ((j+1,xs++tC (c0 bS) none 0,ra2,rc2)) (show ar-(j+1)<ar-j by omega) (show j+1≤ar by omega) lE (fun w f hM=>⟨_,(hM.more (B':=[]) (F':=[fun w f=>Bl w f (N8 (j+1)) (xs++tC (c0 bS) none 0)]) nE (A1.mem ⟨Bl.snoc (Ah.nil _ _ _ _) hM.f0,trivial⟩) (Af.mem ⟨Bl.mono,trivial⟩)).less (sD (sK (sK sZ))) sR nE (mR [0,2,3])⟩)))
 refine go As 3 [] (fun _=>Hc<|go As 2 [] (fun _=>?_))
 obtain rfl:j=ar:=by have:=of_decide_eq_false h2;omega
 refine QH (fun w f=>Ah w f (N8 j) ra rc) Ah.mono (fun w f hM=>HL hM hM.f0)<|Ml (fun w=>AQ w A.cb [.pointer (some ⟨A.sb,0,none⟩),.map (some A.km),.map (some A.dm),.map (some A.rm),.int .i64 0] 64) (fun w f h _=>h.blk) [0,1] Ap (rd [0,1,2,3,4,5,6] (.br 7 .fin .fin)) rfl kR kR kR (fun _ _ _ _ _ h=>h)<|AA As 3 [] (fun _=>HN rfl rfl rfl (fun w hK=>Al rfl O7 hK.2.2 rfl)<|AA As 3 [1,0] (y<|y<|fun _=>Ag rfl ?_ Ai))
 exact mH (m:=⟨N8 j,c0 dt,[]⟩) (aa:=ra) (ac:=rc) (oa:=none) (oc:=0) (va:=none) (vc:=0) (i1:=0) hA hwi rfl rfl rfl rfl (by unfold ZF tC;simp only[KR];rfl) Pe H7 (NL i hil _ hx) rfl rfl rfl<|go As 1 [] (fun _=>Bh [0,1] (fun w f h _=>h.blk) rfl (fun _ h=>h)<|B3<|go As 6 [] (And.intro ⟨oM,oM⟩<|fun _=>Eb (i+1) (show 8-(i+1)<8-i by omega) ⟨show i+1≤8 by omega,(by rw[NZ hx];exact hwi.addCons (NL i hil _ hx) ⟨by rw[KR];dsimp only;omega,Nk _,Df (Rj hx),Nat.zero_le _⟩)⟩ lE (fun w f hM=>⟨_,by rw[NZ hx];exact hM.less (sD (sD sZ)) sR nE (mR [2,3])⟩)))
 refine go As 3 [] (fun _=>Hc<|go As 3 [] (fun _=>?_))
 obtain rfl:i=8:=by have:=of_decide_eq_false h1;omega
 refine go As 4 [] (fun _=>Fh (v:=.int .i64 0) rfl rfl (fun w f hM=>Al rfl CZ hM.res.blk rfl)<|go As 3 [] (And.intro ⟨oM,oM⟩<|fun _=>qJ (v:=0-1) hA rfl rfl rfl CZ<|go As 10 [] (fun _=>B8 rfl rfl (eC fJ rfl rfl) (fun w f hM=>U1 w f hM.vl hM.f1) (fun x=>⟨Uz.mono,trivial⟩) ?_)))
 rintro⟨pa,pc⟩ -
 refine go As 5 [] (fun _=>?_)
 refine H9 (α:=Nat×Option Addr) (fun x=>Cp.length-x.1) (fun x=>x.1≤Cp.length) (fun x=>(E5 2 (.pointer (some ⟨A.cb,0,none⟩)) 6 (.pointer x.2) 51 (.slice pa Cp.length pc) 52 (.int .i64 (Cp.length:Int)) 53 (.int .i64 (x.1:Int)))) (fun x=>⟨fun _=>False,BB A,Au 64 130 A (⟨[],0,Xd 8,[],[],0-1⟩:CS),w,f⟩) (fun x=>[]) (fun x=>[]) (fun x=>[]) (fun x=>[fun w f=>Uz w f Cp pa pc,fun w f=>AN w f (Hd x.1) x.2]) (0,none) (Nat.zero_le _) lE (fun w f hM=>hM.more (B':=[]) (F':=[fun w f=>AN w f (Hd 0) none]) nE (A1.mem ⟨rfl,trivial⟩) (Af.mem ⟨AN.mono,trivial⟩) |>.less sR sR nE (mR [1,0])) ?_
 rintro⟨i,ea⟩ hi
 dsimp only at hi ⊢
 refine go As 6 [] (fun _=>AZ 54 rfl rfl (fun h3=>?_) (fun h3=>?_))
 refine go As 6 [] (fun _=>?_)
 have hpl:Cp.length≤1000:=dC
 have hil:i<Cp.length:=by have:=of_decide_eq_true h3;omega
 obtain⟨p,hx⟩:∃v,Cp[i]?=some v:=⟨_,List.getElem?_eq_getElem hil⟩
 have hpb:p.2.2.bnd:=NO p (List.mem_of_getElem? hx)
 refine CB (α:=Nat×Option Addr×Nat) (fun x=>pa=some ⟨x.1,0,none⟩) (fun x=>[⟨x.1,0+i*6,pC p x.2.1 x.2.2⟩]) (fun x=>[fun w f=>Ah w f p.2.2.kids x.2.1 x.2.2]) (fun w f hM=>let ⟨_,b,xs,h1,h2,h3⟩:=hM.f0;let ⟨a,c,h4,h5⟩:=Di.get h3 h2 hx;⟨(b,a,c),h1,(fun e he=>by cases he with|head=>exact h4|tail _ h=>cases h),A1.mem ⟨h5,trivial⟩⟩) (fun x=>Af.mem ⟨Ah.mono,trivial⟩) ?_
 rintro⟨pb,qa,qc⟩ rfl
 refine go As 7 [100,0,0] (And.intro oM<|y2<|fun b7=>y<|fun _=>?_)
 refine WA (α:=Option Addr) (fun x=>True) (fun x=>(E5 2 (.pointer (some ⟨A.cb,0,none⟩)) 6 (.pointer x) 51 (.slice (some (⟨pb,0,none⟩:Addr)) Cp.length pc) 52 (.int .i64 (Cp.length:Int)) 53 (.int .i64 (i:Int)))) (fun x=>⟨fun _=>False,BB A,Au 64 130 A (⟨[],0,Xd 8,[],[],0-1⟩:CS),w,f⟩) (fun x=>[]) (fun x=>[]) (fun x=>[]) (fun x=>[fun w f=>Uz w f Cp (some (⟨pb,0,none⟩:Addr)) pc,fun w f=>AN w f (Q0 p::Hd i) x]) ?_ ?_
 refine Ml (fun w=>AQ w A.cb [.pointer (some ⟨A.sb,0,none⟩),.map (some A.km),.map (some A.dm),.map (some A.rm),.int .i64 (0-1)] 64) (fun w f h _=>h.blk) [0] Ap (rd [0,1,2,3,5,6,7,8,12,13,14,15,18] (.br 4 (.br 9 (.br 10 (.br 11 (.br 16 (.rd 17 (.rd 19 (.br 20 (.rd 21 .fin) .fin))) .fin) (.br 16 (.br 11 (.rd 17 (.rd 19 (.br 20 (.rd 21 .fin) .fin))) .fin) .fin)) (.br 16 (.br 10 (.br 11 (.rd 17 (.rd 19 (.br 20 (.rd 21 .fin) .fin))) .fin) .fin) .fin)) (.br 16 (.br 9 (.br 10 (.br 11 (.rd 17 (.rd 19 (.br 20 (.rd 21 .fin) .fin))) .fin) .fin) .fin) .fin)) (.br 9 (.br 4 (.br 10 (.br 11 (.br 16 (.rd 17 (.rd 19 (.br 20 (.rd 21 .fin) .fin))) .fin) (.br 16 (.br 11 (.rd 17 (.rd 19 (.br 20 (.rd 21 .fin) .fin))) .fin) .fin)) (.br 16 (.br 10 (.br 11 (.rd 17 (.rd 19 (.br 20 (.rd 21 .fin) .fin))) .fin) .fin) .fin)) (.br 10 (.br 4 (.br 11 (.br 16 (.rd 17 (.rd 19 (.br 20 (.rd 21 .fin) .fin))) .fin) (.br 16 (.br 11 (.rd 17 (.rd 19 (.br 20 (.rd 21 .fin) .fin))) .fin) .fin)) (.br 16 (.br 4 (.br 11 (.rd 17 (.rd 19 (.br 20 (.rd 21 .fin) .fin))) .fin) .fin) .fin)) (.br 16 (.br 4 (.br 10 (.br 11 (.rd 17 (.rd 19 (.br 20 (.rd 21 .fin) .fin))) .fin) .fin) (.br 10 (.br 4 (.br 11 (.rd 17 (.rd 19 (.br 20 (.rd 21 .fin) .fin))) .fin) .fin) .fin)) .fin))) (.br 16 (.br 4 (.br 9 (.br 10 (.br 11 (.rd 17 (.rd 19 (.br 20 (.rd 21 .fin) .fin))) .fin) .fin) .fin) (.br 9 (.br 4 (.br 10 (.br 11 (.rd 17 (.rd 19 (.br 20 (.rd 21 .fin) .fin))) .fin) .fin) (.br 10 (.br 4 (.br 11 (.rd 17 (.rd 19 (.br 20 (.rd 21 .fin) .fin))) .fin) .fin) .fin)) .fin)) .fin)))) rfl kR kR kR (fun _ _ _ _ _ h=>h)<|AA As 7 [0,0] (y<|y<|fun _=>HN rfl rfl rfl (fun w hK=>(Al rfl CZ hK.2.2 rfl:AO _ _ _ _ _ (.int .i64 (0-1)) _))<|AA As 3 [] (fun _=>HN rfl rfl rfl (fun w hK=>(Al rfl CZ hK.2.2 rfl:AO _ _ _ _ _ (.int .i64 (0-1)) _))<|AA As 1 [] (fun _=>Ag rfl ?_ ?_)))
 refine go As 2 [] (fun b8=>fun _=>Bh [1] (fun w f h _=>h.blk) rfl (fun _ h=>h)<|Ag rfl ?_ ?_)
 refine B8 rfl rfl (eC Hp rfl rfl) (fun w f hM=>Eg w f hM.vl (0-1)) (fun x=>trivial) ?_
 rintro⟨⟩ -
 refine go As 1 [] (fun _=>Bh [1] (fun w f h _=>h.blk) rfl (fun _ h=>h)<|Ag rfl ?_ ?_)
 refine go As 2 [] (fun b9=>fun _=>Bh [2] (fun w f h _=>h.blk) rfl (fun _ h=>h)<|Ag rfl ?_ ?_)
 refine Dl 1 rfl rfl<|Dl 0 rfl rfl<|B8 (α:=Option Addr×Nat) rfl rfl (eC D9 rfl rfl) (fun w f hM=>BI w f hM.vl [1] (some ⟨b8,0,none⟩) 1 (T1.var (0-1)).one (some ⟨b9,0,none⟩) 1 dC dC trivial ⟨Nat.le_refl _,.inr ⟨b8,0,rfl,hM.b1⟩⟩ (Ds (l:=[(.var (0-1),none,0)]) ⟨Ah.nil _ _ _ _,trivial⟩ hM.b0) p.2.2 qa qc hpb hM.f0) (fun _=>⟨Ah.mono,trivial⟩) ?_
 rintro⟨wa,wc⟩ -
 refine go As 1 [] (fun _=>Bh [0] (fun w f h _=>h.blk) rfl (fun _ h=>.tail _ (.tail _ h))<|Ag rfl ?_ Ai)
 refine go As 2 [] (fun b10=>fun _=>Bh [1] (fun w f h _=>h.blk) rfl (fun _ h=>.tail _ (.tail _ h))<|AA As 2 [] (fun _=>Ag rfl ?_ Ai))
 exact go As 2 [] (fun b11=>fun _=>Bh [2] (fun w f h _=>h.blk) rfl (fun _ h=>.tail _ (.tail _ h))<|AA As 1 [] (fun _=>B3<|Dl 0 rfl rfl<|Dl 0 rfl rfl<|L2 (some ⟨b11,0,none⟩) trivial lE (fun w f hM=>⟨f,(hM.more (B':=[]) (F':=[fun w f=>AN w f (Q0 p::Hd i) (some ⟨b11,0,none⟩)]) nE (A1.mem ⟨⟨b11,wa,wc,some ⟨b10,0,none⟩,1,ea,rfl,hM.b1,hM.f0,⟨Nat.le_refl _,.inr ⟨b10,0,rfl,hM.b0⟩⟩,hM.f3⟩,trivial⟩) (Af.mem ⟨AN.mono,trivial⟩)).less (sD sZ) sR nE (mR [3,0])⟩)))
 refine Ag rfl ?_ Ai
 refine go As 2 [] (fun b12=>fun _=>Bh [3] (fun w f h _=>h.blk) rfl (fun _ h=>h)<|Ag rfl ?_ Ai)
 refine Dl 2 rfl rfl<|Dl 1 rfl rfl<|B8 (α:=Option Addr×Nat) rfl rfl (eC D9 rfl rfl) (fun w f hM=>BI w f hM.vl [1] (some ⟨b8,0,none⟩) 1 (T1.var (0-1)).one (some ⟨b9,0,none⟩) 1 dC dC trivial ⟨Nat.le_refl _,.inr ⟨b8,0,rfl,hM.b1⟩⟩ (Ds (l:=[(.var (0-1),none,0)]) ⟨Ah.nil _ _ _ _,trivial⟩ hM.b0) p.2.2 qa qc hpb hM.f0) (fun _=>⟨Ah.mono,trivial⟩) ?_
 rintro⟨wa,wc⟩ -
 refine go As 1 [] (fun _=>Bh [1] (fun w f h _=>h.blk) rfl (fun _ h=>.tail _ (.tail _ h))<|AA As 2 [] (fun _=>Ag rfl ?_ Ai))
 exact go As 2 [] (fun b13=>fun _=>Bh [2] (fun w f h _=>h.blk) rfl (fun _ h=>.tail _ (.tail _ h))<|AA As 1 [] (fun _=>B3<|Dl 0 rfl rfl<|Dl 0 rfl rfl<|L2 (some ⟨b13,0,none⟩) trivial lE (fun w f hM=>⟨f,(hM.more (B':=[]) (F':=[fun w f=>AN w f (Q0 p::Hd i) (some ⟨b13,0,none⟩)]) nE (A1.mem ⟨⟨b13,wa,wc,some ⟨b12,0,none⟩,1,ea,rfl,hM.b1,hM.f0,⟨Nat.le_refl _,.inr ⟨b12,0,rfl,hM.b0⟩⟩,hM.f3⟩,trivial⟩) (Af.mem ⟨AN.mono,trivial⟩)).less (sD sZ) sR nE (mR [3,0])⟩)))
 refine Ag rfl ?_ Ai
 refine go As 2 [] (fun b14=>fun _=>Bh [2] (fun w f h _=>h.blk) rfl (fun _ h=>h)<|Ag rfl ?_ Ai)
 refine go As 2 [] (fun b15=>fun _=>Bh [3] (fun w f h _=>h.blk) rfl (fun _ h=>h)<|Ag rfl ?_ Ai)
 refine Dl 2 rfl rfl<|Dl 0 rfl rfl<|B8 (α:=Option Addr×Nat) rfl rfl (eC D9 rfl rfl) (fun w f hM=>BI w f hM.vl [1] (some ⟨b8,0,none⟩) 1 (T1.var (0-1)).one (some ⟨b15,0,none⟩) 1 dC dC trivial ⟨Nat.le_refl _,.inr ⟨b8,0,rfl,hM.b1⟩⟩ (Ds (l:=[(.var (0-1),none,0)]) ⟨Ah.nil _ _ _ _,trivial⟩ hM.b0) p.2.2 qa qc hpb hM.f0) (fun _=>⟨Ah.mono,trivial⟩) ?_
 rintro⟨wa,wc⟩ -
 refine go As 1 [] (fun _=>Bh [1] (fun w f h _=>h.blk) rfl (fun _ h=>.tail _ (.tail _ h))<|AA As 2 [] (fun _=>Ag rfl ?_ Ai))
 exact go As 2 [] (fun b16=>fun _=>Bh [2] (fun w f h _=>h.blk) rfl (fun _ h=>.tail _ (.tail _ h))<|AA As 1 [] (fun _=>B3<|Dl 0 rfl rfl<|Dl 0 rfl rfl<|L2 (some ⟨b16,0,none⟩) trivial lE (fun w f hM=>⟨f,(hM.more (B':=[]) (F':=[fun w f=>AN w f (Q0 p::Hd i) (some ⟨b16,0,none⟩)]) nE (A1.mem ⟨⟨b16,wa,wc,some ⟨b14,0,none⟩,1,ea,rfl,hM.b1,hM.f0,⟨Nat.le_refl _,.inr ⟨b14,0,rfl,hM.b0⟩⟩,hM.f3⟩,trivial⟩) (Af.mem ⟨AN.mono,trivial⟩)).less (sD sZ) sR nE (mR [3,0])⟩)))
 refine Ag rfl ?_ Ai
 refine go As 2 [] (fun b17=>fun _=>Bh [2] (fun w f h _=>h.blk) rfl (fun _ h=>h)<|Ag rfl ?_ Ai)
 refine B8 rfl rfl (eC Hp rfl rfl) (fun w f hM=>Eg w f hM.vl (0-1)) (fun x=>trivial) ?_
 rintro⟨⟩ -
 refine go As 1 [] (fun _=>Bh [2] (fun w f h _=>h.blk) rfl (fun _ h=>h)<|Ag rfl ?_ Ai)
 refine go As 2 [] (fun b18=>fun _=>Bh [3] (fun w f h _=>h.blk) rfl (fun _ h=>h)<|Ag rfl ?_ Ai)
 refine Dl 2 rfl rfl<|Dl 0 rfl rfl<|B8 (α:=Option Addr×Nat) rfl rfl (eC D9 rfl rfl) (fun w f hM=>BI w f hM.vl [1] (some ⟨b8,0,none⟩) 1 (T1.var (0-1)).one (some ⟨b18,0,none⟩) 1 dC dC trivial ⟨Nat.le_refl _,.inr ⟨b8,0,rfl,hM.b1⟩⟩ (Ds (l:=[(.var (0-1),none,0)]) ⟨Ah.nil _ _ _ _,trivial⟩ hM.b0) p.2.2 qa qc hpb hM.f0) (fun _=>⟨Ah.mono,trivial⟩) ?_
 rintro⟨wa,wc⟩ -
 refine go As 1 [] (fun _=>Bh [1] (fun w f h _=>h.blk) rfl (fun _ h=>.tail _ (.tail _ h))<|AA As 2 [] (fun _=>Ag rfl ?_ Ai))
 exact go As 2 [] (fun b19=>fun _=>Bh [2] (fun w f h _=>h.blk) rfl (fun _ h=>.tail _ (.tail _ h))<|AA As 1 [] (fun _=>B3<|Dl 0 rfl rfl<|Dl 0 rfl rfl<|L2 (some ⟨b19,0,none⟩) trivial lE (fun w f hM=>⟨f,(hM.more (B':=[]) (F':=[fun w f=>AN w f (Q0 p::Hd i) (some ⟨b19,0,none⟩)]) nE (A1.mem ⟨⟨b19,wa,wc,some ⟨b17,0,none⟩,1,ea,rfl,hM.b1,hM.f0,⟨Nat.le_refl _,.inr ⟨b17,0,rfl,hM.b0⟩⟩,hM.f3⟩,trivial⟩) (Af.mem ⟨AN.mono,trivial⟩)).less (sD sZ) sR nE (mR [3,0])⟩)))
 refine Ag rfl ?_ ?_
 refine B8 rfl rfl (eC Hp rfl rfl) (fun w f hM=>Eg w f hM.vl (0-1)) (fun x=>trivial) ?_
 rintro⟨⟩ -
 refine go As 1 [] (fun _=>Bh [0] (fun w f h _=>h.blk) rfl (fun _ h=>h)<|Ag rfl ?_ ?_)
 refine go As 2 [] (fun b20=>fun _=>Bh [1] (fun w f h _=>h.blk) rfl (fun _ h=>h)<|Ag rfl ?_ ?_)
 refine go As 2 [] (fun b21=>fun _=>Bh [2] (fun w f h _=>h.blk) rfl (fun _ h=>h)<|Ag rfl ?_ ?_)
 refine Dl 1 rfl rfl<|Dl 0 rfl rfl<|B8 (α:=Option Addr×Nat) rfl rfl (eC D9 rfl rfl) (fun w f hM=>BI w f hM.vl [1] (some ⟨b20,0,none⟩) 1 (T1.var (0-1)).one (some ⟨b21,0,none⟩) 1 dC dC trivial ⟨Nat.le_refl _,.inr ⟨b20,0,rfl,hM.b1⟩⟩ (Ds (l:=[(.var (0-1),none,0)]) ⟨Ah.nil _ _ _ _,trivial⟩ hM.b0) p.2.2 qa qc hpb hM.f0) (fun _=>⟨Ah.mono,trivial⟩) ?_
 rintro⟨wa,wc⟩ -
 refine go As 1 [] (fun _=>Bh [0] (fun w f h _=>h.blk) rfl (fun _ h=>.tail _ (.tail _ h))<|Ag rfl ?_ Ai)
 refine go As 2 [] (fun b22=>fun _=>Bh [1] (fun w f h _=>h.blk) rfl (fun _ h=>.tail _ (.tail _ h))<|AA As 2 [] (fun _=>Ag rfl ?_ Ai))
 exact go As 2 [] (fun b23=>fun _=>Bh [2] (fun w f h _=>h.blk) rfl (fun _ h=>.tail _ (.tail _ h))<|AA As 1 [] (fun _=>B3<|Dl 0 rfl rfl<|Dl 0 rfl rfl<|L2 (some ⟨b23,0,none⟩) trivial lE (fun w f hM=>⟨f,(hM.more (B':=[]) (F':=[fun w f=>AN w f (Q0 p::Hd i) (some ⟨b23,0,none⟩)]) nE (A1.mem ⟨⟨b23,wa,wc,some ⟨b22,0,none⟩,1,ea,rfl,hM.b1,hM.f0,⟨Nat.le_refl _,.inr ⟨b22,0,rfl,hM.b0⟩⟩,hM.f3⟩,trivial⟩) (Af.mem ⟨AN.mono,trivial⟩)).less (sD sZ) sR nE (mR [3,0])⟩)))
 refine Ag rfl ?_ Ai
 refine go As 2 [] (fun b24=>fun _=>Bh [3] (fun w f h _=>h.blk) rfl (fun _ h=>h)<|Ag rfl ?_ Ai)
 refine Dl 2 rfl rfl<|Dl 1 rfl rfl<|B8 (α:=Option Addr×Nat) rfl rfl (eC D9 rfl rfl) (fun w f hM=>BI w f hM.vl [1] (some ⟨b20,0,none⟩) 1 (T1.var (0-1)).one (some ⟨b21,0,none⟩) 1 dC dC trivial ⟨Nat.le_refl _,.inr ⟨b20,0,rfl,hM.b1⟩⟩ (Ds (l:=[(.var (0-1),none,0)]) ⟨Ah.nil _ _ _ _,trivial⟩ hM.b0) p.2.2 qa qc hpb hM.f0) (fun _=>⟨Ah.mono,trivial⟩) ?_
 rintro⟨wa,wc⟩ -
 refine go As 1 [] (fun _=>Bh [1] (fun w f h _=>h.blk) rfl (fun _ h=>.tail _ (.tail _ h))<|AA As 2 [] (fun _=>Ag rfl ?_ Ai))
 exact go As 2 [] (fun b25=>fun _=>Bh [2] (fun w f h _=>h.blk) rfl (fun _ h=>.tail _ (.tail _ h))<|AA As 1 [] (fun _=>B3<|Dl 0 rfl rfl<|Dl 0 rfl rfl<|L2 (some ⟨b25,0,none⟩) trivial lE (fun w f hM=>⟨f,(hM.more (B':=[]) (F':=[fun w f=>AN w f (Q0 p::Hd i) (some ⟨b25,0,none⟩)]) nE (A1.mem ⟨⟨b25,wa,wc,some ⟨b24,0,none⟩,1,ea,rfl,hM.b1,hM.f0,⟨Nat.le_refl _,.inr ⟨b24,0,rfl,hM.b0⟩⟩,hM.f3⟩,trivial⟩) (Af.mem ⟨AN.mono,trivial⟩)).less (sD sZ) sR nE (mR [3,0])⟩)))
 refine Ag rfl ?_ Ai
 refine go As 2 [] (fun b26=>fun _=>Bh [2] (fun w f h _=>h.blk) rfl (fun _ h=>h)<|Ag rfl ?_ Ai)
 refine go As 2 [] (fun b27=>fun _=>Bh [3] (fun w f h _=>h.blk) rfl (fun _ h=>h)<|Ag rfl ?_ Ai)
 refine Dl 2 rfl rfl<|Dl 0 rfl rfl<|B8 (α:=Option Addr×Nat) rfl rfl (eC D9 rfl rfl) (fun w f hM=>BI w f hM.vl [1] (some ⟨b20,0,none⟩) 1 (T1.var (0-1)).one (some ⟨b27,0,none⟩) 1 dC dC trivial ⟨Nat.le_refl _,.inr ⟨b20,0,rfl,hM.b1⟩⟩ (Ds (l:=[(.var (0-1),none,0)]) ⟨Ah.nil _ _ _ _,trivial⟩ hM.b0) p.2.2 qa qc hpb hM.f0) (fun _=>⟨Ah.mono,trivial⟩) ?_
 rintro⟨wa,wc⟩ -
 refine go As 1 [] (fun _=>Bh [1] (fun w f h _=>h.blk) rfl (fun _ h=>.tail _ (.tail _ h))<|AA As 2 [] (fun _=>Ag rfl ?_ Ai))
 exact go As 2 [] (fun b28=>fun _=>Bh [2] (fun w f h _=>h.blk) rfl (fun _ h=>.tail _ (.tail _ h))<|AA As 1 [] (fun _=>B3<|Dl 0 rfl rfl<|Dl 0 rfl rfl<|L2 (some ⟨b28,0,none⟩) trivial lE (fun w f hM=>⟨f,(hM.more (B':=[]) (F':=[fun w f=>AN w f (Q0 p::Hd i) (some ⟨b28,0,none⟩)]) nE (A1.mem ⟨⟨b28,wa,wc,some ⟨b26,0,none⟩,1,ea,rfl,hM.b1,hM.f0,⟨Nat.le_refl _,.inr ⟨b26,0,rfl,hM.b0⟩⟩,hM.f3⟩,trivial⟩) (Af.mem ⟨AN.mono,trivial⟩)).less (sD sZ) sR nE (mR [3,0])⟩)))
 refine Ag rfl ?_ ?_
 refine go As 2 [] (fun b29=>fun _=>Bh [1] (fun w f h _=>h.blk) rfl (fun _ h=>h)<|Ag rfl ?_ ?_)
 refine go As 2 [] (fun b30=>fun _=>Bh [2] (fun w f h _=>h.blk) rfl (fun _ h=>h)<|Ag rfl ?_ ?_)
 refine Dl 0 rfl rfl<|Dl 0 rfl rfl<|B8 (α:=Option Addr×Nat) rfl rfl (eC D9 rfl rfl) (fun w f hM=>BI w f hM.vl [1] (some ⟨b30,0,none⟩) 1 (T1.var (0-1)).one (some ⟨b29,0,none⟩) 1 dC dC trivial ⟨Nat.le_refl _,.inr ⟨b30,0,rfl,hM.b1⟩⟩ (Ds (l:=[(.var (0-1),none,0)]) ⟨Ah.nil _ _ _ _,trivial⟩ hM.b0) p.2.2 qa qc hpb hM.f0) (fun _=>⟨Ah.mono,trivial⟩) ?_
 rintro⟨wa,wc⟩ -
 refine go As 1 [] (fun _=>Bh [0] (fun w f h _=>h.blk) rfl (fun _ h=>.tail _ (.tail _ h))<|Ag rfl ?_ Ai)
 refine go As 2 [] (fun b31=>fun _=>Bh [1] (fun w f h _=>h.blk) rfl (fun _ h=>.tail _ (.tail _ h))<|AA As 2 [] (fun _=>Ag rfl ?_ Ai))
 exact go As 2 [] (fun b32=>fun _=>Bh [2] (fun w f h _=>h.blk) rfl (fun _ h=>.tail _ (.tail _ h))<|AA As 1 [] (fun _=>B3<|Dl 0 rfl rfl<|Dl 0 rfl rfl<|L2 (some ⟨b32,0,none⟩) trivial lE (fun w f hM=>⟨f,(hM.more (B':=[]) (F':=[fun w f=>AN w f (Q0 p::Hd i) (some ⟨b32,0,none⟩)]) nE (A1.mem ⟨⟨b32,wa,wc,some ⟨b31,0,none⟩,1,ea,rfl,hM.b1,hM.f0,⟨Nat.le_refl _,.inr ⟨b31,0,rfl,hM.b0⟩⟩,hM.f3⟩,trivial⟩) (Af.mem ⟨AN.mono,trivial⟩)).less (sD sZ) sR nE (mR [3,0])⟩)))
 refine Ag rfl ?_ Ai
 refine go As 2 [] (fun b33=>fun _=>Bh [3] (fun w f h _=>h.blk) rfl (fun _ h=>h)<|Ag rfl ?_ Ai)
 refine Dl 1 rfl rfl<|Dl 1 rfl rfl<|B8 (α:=Option Addr×Nat) rfl rfl (eC D9 rfl rfl) (fun w f hM=>BI w f hM.vl [1] (some ⟨b30,0,none⟩) 1 (T1.var (0-1)).one (some ⟨b29,0,none⟩) 1 dC dC trivial ⟨Nat.le_refl _,.inr ⟨b30,0,rfl,hM.b1⟩⟩ (Ds (l:=[(.var (0-1),none,0)]) ⟨Ah.nil _ _ _ _,trivial⟩ hM.b0) p.2.2 qa qc hpb hM.f0) (fun _=>⟨Ah.mono,trivial⟩) ?_
 rintro⟨wa,wc⟩ -
 refine go As 1 [] (fun _=>Bh [1] (fun w f h _=>h.blk) rfl (fun _ h=>.tail _ (.tail _ h))<|AA As 2 [] (fun _=>Ag rfl ?_ Ai))
 exact go As 2 [] (fun b34=>fun _=>Bh [2] (fun w f h _=>h.blk) rfl (fun _ h=>.tail _ (.tail _ h))<|AA As 1 [] (fun _=>B3<|Dl 0 rfl rfl<|Dl 0 rfl rfl<|L2 (some ⟨b34,0,none⟩) trivial lE (fun w f hM=>⟨f,(hM.more (B':=[]) (F':=[fun w f=>AN w f (Q0 p::Hd i) (some ⟨b34,0,none⟩)]) nE (A1.mem ⟨⟨b34,wa,wc,some ⟨b33,0,none⟩,1,ea,rfl,hM.b1,hM.f0,⟨Nat.le_refl _,.inr ⟨b33,0,rfl,hM.b0⟩⟩,hM.f3⟩,trivial⟩) (Af.mem ⟨AN.mono,trivial⟩)).less (sD sZ) sR nE (mR [3,0])⟩)))
 refine Ag rfl ?_ Ai
 refine go As 2 [] (fun b35=>fun _=>Bh [2] (fun w f h _=>h.blk) rfl (fun _ h=>h)<|Ag rfl ?_ Ai)
 refine go As 2 [] (fun b36=>fun _=>Bh [3] (fun w f h _=>h.blk) rfl (fun _ h=>h)<|Ag rfl ?_ Ai)
 refine Dl 0 rfl rfl<|Dl 1 rfl rfl<|B8 (α:=Option Addr×Nat) rfl rfl (eC D9 rfl rfl) (fun w f hM=>BI w f hM.vl [1] (some ⟨b36,0,none⟩) 1 (T1.var (0-1)).one (some ⟨b29,0,none⟩) 1 dC dC trivial ⟨Nat.le_refl _,.inr ⟨b36,0,rfl,hM.b1⟩⟩ (Ds (l:=[(.var (0-1),none,0)]) ⟨Ah.nil _ _ _ _,trivial⟩ hM.b0) p.2.2 qa qc hpb hM.f0) (fun _=>⟨Ah.mono,trivial⟩) ?_
 rintro⟨wa,wc⟩ -
 refine go As 1 [] (fun _=>Bh [1] (fun w f h _=>h.blk) rfl (fun _ h=>.tail _ (.tail _ h))<|AA As 2 [] (fun _=>Ag rfl ?_ Ai))
 exact go As 2 [] (fun b37=>fun _=>Bh [2] (fun w f h _=>h.blk) rfl (fun _ h=>.tail _ (.tail _ h))<|AA As 1 [] (fun _=>B3<|Dl 0 rfl rfl<|Dl 0 rfl rfl<|L2 (some ⟨b37,0,none⟩) trivial lE (fun w f hM=>⟨f,(hM.more (B':=[]) (F':=[fun w f=>AN w f (Q0 p::Hd i) (some ⟨b37,0,none⟩)]) nE (A1.mem ⟨⟨b37,wa,wc,some ⟨b35,0,none⟩,1,ea,rfl,hM.b1,hM.f0,⟨Nat.le_refl _,.inr ⟨b35,0,rfl,hM.b0⟩⟩,hM.f3⟩,trivial⟩) (Af.mem ⟨AN.mono,trivial⟩)).less (sD sZ) sR nE (mR [3,0])⟩)))
 refine Ag rfl ?_ Ai
 refine go As 2 [] (fun b38=>fun _=>Bh [1] (fun w f h _=>h.blk) rfl (fun _ h=>h)<|Ag rfl ?_ ?_)
 refine go As 2 [] (fun b39=>fun _=>Bh [2] (fun w f h _=>h.blk) rfl (fun _ h=>h)<|Ag rfl ?_ Ai)
 refine go As 2 [] (fun b40=>fun _=>Bh [3] (fun w f h _=>h.blk) rfl (fun _ h=>h)<|Ag rfl ?_ Ai)
 refine Dl 1 rfl rfl<|Dl 0 rfl rfl<|B8 (α:=Option Addr×Nat) rfl rfl (eC D9 rfl rfl) (fun w f hM=>BI w f hM.vl [1] (some ⟨b39,0,none⟩) 1 (T1.var (0-1)).one (some ⟨b40,0,none⟩) 1 dC dC trivial ⟨Nat.le_refl _,.inr ⟨b39,0,rfl,hM.b1⟩⟩ (Ds (l:=[(.var (0-1),none,0)]) ⟨Ah.nil _ _ _ _,trivial⟩ hM.b0) p.2.2 qa qc hpb hM.f0) (fun _=>⟨Ah.mono,trivial⟩) ?_
 rintro⟨wa,wc⟩ -
 refine go As 1 [] (fun _=>Bh [1] (fun w f h _=>h.blk) rfl (fun _ h=>.tail _ (.tail _ h))<|AA As 2 [] (fun _=>Ag rfl ?_ Ai))
 exact go As 2 [] (fun b41=>fun _=>Bh [2] (fun w f h _=>h.blk) rfl (fun _ h=>.tail _ (.tail _ h))<|AA As 1 [] (fun _=>B3<|Dl 0 rfl rfl<|Dl 0 rfl rfl<|L2 (some ⟨b41,0,none⟩) trivial lE (fun w f hM=>⟨f,(hM.more (B':=[]) (F':=[fun w f=>AN w f (Q0 p::Hd i) (some ⟨b41,0,none⟩)]) nE (A1.mem ⟨⟨b41,wa,wc,some ⟨b38,0,none⟩,1,ea,rfl,hM.b1,hM.f0,⟨Nat.le_refl _,.inr ⟨b38,0,rfl,hM.b0⟩⟩,hM.f3⟩,trivial⟩) (Af.mem ⟨AN.mono,trivial⟩)).less (sD sZ) sR nE (mR [3,0])⟩)))
 refine Ag rfl ?_ Ai
 refine go As 2 [] (fun b42=>fun _=>Bh [2] (fun w f h _=>h.blk) rfl (fun _ h=>h)<|Ag rfl ?_ Ai)
 refine go As 2 [] (fun b43=>fun _=>Bh [3] (fun w f h _=>h.blk) rfl (fun _ h=>h)<|Ag rfl ?_ Ai)
 refine Dl 0 rfl rfl<|Dl 0 rfl rfl<|B8 (α:=Option Addr×Nat) rfl rfl (eC D9 rfl rfl) (fun w f hM=>BI w f hM.vl [1] (some ⟨b43,0,none⟩) 1 (T1.var (0-1)).one (some ⟨b42,0,none⟩) 1 dC dC trivial ⟨Nat.le_refl _,.inr ⟨b43,0,rfl,hM.b1⟩⟩ (Ds (l:=[(.var (0-1),none,0)]) ⟨Ah.nil _ _ _ _,trivial⟩ hM.b0) p.2.2 qa qc hpb hM.f0) (fun _=>⟨Ah.mono,trivial⟩) ?_
 rintro⟨wa,wc⟩ -
 refine go As 1 [] (fun _=>Bh [1] (fun w f h _=>h.blk) rfl (fun _ h=>.tail _ (.tail _ h))<|AA As 2 [] (fun _=>Ag rfl ?_ Ai))
 exact go As 2 [] (fun b44=>fun _=>Bh [2] (fun w f h _=>h.blk) rfl (fun _ h=>.tail _ (.tail _ h))<|AA As 1 [] (fun _=>B3<|Dl 0 rfl rfl<|Dl 0 rfl rfl<|L2 (some ⟨b44,0,none⟩) trivial lE (fun w f hM=>⟨f,(hM.more (B':=[]) (F':=[fun w f=>AN w f (Q0 p::Hd i) (some ⟨b44,0,none⟩)]) nE (A1.mem ⟨⟨b44,wa,wc,some ⟨b38,0,none⟩,1,ea,rfl,hM.b1,hM.f0,⟨Nat.le_refl _,.inr ⟨b38,0,rfl,hM.b0⟩⟩,hM.f3⟩,trivial⟩) (Af.mem ⟨AN.mono,trivial⟩)).less (sD sZ) sR nE (mR [3,0])⟩)))
 refine Ag rfl ?_ Ai
 refine go As 2 [] (fun b45=>fun _=>Bh [1] (fun w f h _=>h.blk) rfl (fun _ h=>h)<|Ag rfl ?_ ?_)
 refine go As 2 [] (fun b46=>fun _=>Bh [2] (fun w f h _=>h.blk) rfl (fun _ h=>h)<|Ag rfl ?_ Ai)
 refine B8 rfl rfl (eC Hp rfl rfl) (fun w f hM=>Eg w f hM.vl (0-1)) (fun x=>trivial) ?_
 rintro⟨⟩ -
 refine go As 1 [] (fun _=>Bh [2] (fun w f h _=>h.blk) rfl (fun _ h=>h)<|Ag rfl ?_ Ai)
 refine go As 2 [] (fun b47=>fun _=>Bh [3] (fun w f h _=>h.blk) rfl (fun _ h=>h)<|Ag rfl ?_ Ai)
 refine Dl 1 rfl rfl<|Dl 0 rfl rfl<|B8 (α:=Option Addr×Nat) rfl rfl (eC D9 rfl rfl) (fun w f hM=>BI w f hM.vl [1] (some ⟨b46,0,none⟩) 1 (T1.var (0-1)).one (some ⟨b47,0,none⟩) 1 dC dC trivial ⟨Nat.le_refl _,.inr ⟨b46,0,rfl,hM.b1⟩⟩ (Ds (l:=[(.var (0-1),none,0)]) ⟨Ah.nil _ _ _ _,trivial⟩ hM.b0) p.2.2 qa qc hpb hM.f0) (fun _=>⟨Ah.mono,trivial⟩) ?_
 rintro⟨wa,wc⟩ -
 refine go As 1 [] (fun _=>Bh [1] (fun w f h _=>h.blk) rfl (fun _ h=>.tail _ (.tail _ h))<|AA As 2 [] (fun _=>Ag rfl ?_ Ai))
 exact go As 2 [] (fun b48=>fun _=>Bh [2] (fun w f h _=>h.blk) rfl (fun _ h=>.tail _ (.tail _ h))<|AA As 1 [] (fun _=>B3<|Dl 0 rfl rfl<|Dl 0 rfl rfl<|L2 (some ⟨b48,0,none⟩) trivial lE (fun w f hM=>⟨f,(hM.more (B':=[]) (F':=[fun w f=>AN w f (Q0 p::Hd i) (some ⟨b48,0,none⟩)]) nE (A1.mem ⟨⟨b48,wa,wc,some ⟨b45,0,none⟩,1,ea,rfl,hM.b1,hM.f0,⟨Nat.le_refl _,.inr ⟨b45,0,rfl,hM.b0⟩⟩,hM.f3⟩,trivial⟩) (Af.mem ⟨AN.mono,trivial⟩)).less (sD sZ) sR nE (mR [3,0])⟩)))
 refine Ag rfl ?_ Ai
 refine B8 rfl rfl (eC Hp rfl rfl) (fun w f hM=>Eg w f hM.vl (0-1)) (fun x=>trivial) ?_
 rintro⟨⟩ -
 refine go As 1 [] (fun _=>Bh [1] (fun w f h _=>h.blk) rfl (fun _ h=>h)<|Ag rfl ?_ ?_)
 refine go As 2 [] (fun b49=>fun _=>Bh [2] (fun w f h _=>h.blk) rfl (fun _ h=>h)<|Ag rfl ?_ Ai)
 refine go As 2 [] (fun b50=>fun _=>Bh [3] (fun w f h _=>h.blk) rfl (fun _ h=>h)<|Ag rfl ?_ Ai)
 refine Dl 1 rfl rfl<|Dl 0 rfl rfl<|B8 (α:=Option Addr×Nat) rfl rfl (eC D9 rfl rfl) (fun w f hM=>BI w f hM.vl [1] (some ⟨b49,0,none⟩) 1 (T1.var (0-1)).one (some ⟨b50,0,none⟩) 1 dC dC trivial ⟨Nat.le_refl _,.inr ⟨b49,0,rfl,hM.b1⟩⟩ (Ds (l:=[(.var (0-1),none,0)]) ⟨Ah.nil _ _ _ _,trivial⟩ hM.b0) p.2.2 qa qc hpb hM.f0) (fun _=>⟨Ah.mono,trivial⟩) ?_
 rintro⟨wa,wc⟩ -
 refine go As 1 [] (fun _=>Bh [1] (fun w f h _=>h.blk) rfl (fun _ h=>.tail _ (.tail _ h))<|AA As 2 [] (fun _=>Ag rfl ?_ Ai))
 exact go As 2 [] (fun b51=>fun _=>Bh [2] (fun w f h _=>h.blk) rfl (fun _ h=>.tail _ (.tail _ h))<|AA As 1 [] (fun _=>B3<|Dl 0 rfl rfl<|Dl 0 rfl rfl<|L2 (some ⟨b51,0,none⟩) trivial lE (fun w f hM=>⟨f,(hM.more (B':=[]) (F':=[fun w f=>AN w f (Q0 p::Hd i) (some ⟨b51,0,none⟩)]) nE (A1.mem ⟨⟨b51,wa,wc,some ⟨b45,0,none⟩,1,ea,rfl,hM.b1,hM.f0,⟨Nat.le_refl _,.inr ⟨b45,0,rfl,hM.b0⟩⟩,hM.f3⟩,trivial⟩) (Af.mem ⟨AN.mono,trivial⟩)).less (sD sZ) sR nE (mR [3,0])⟩)))
 refine Ag rfl ?_ Ai
 refine go As 2 [] (fun b52=>fun _=>Bh [2] (fun w f h _=>h.blk) rfl (fun _ h=>h)<|Ag rfl ?_ Ai)
 refine go As 2 [] (fun b53=>fun _=>Bh [3] (fun w f h _=>h.blk) rfl (fun _ h=>h)<|Ag rfl ?_ Ai)
 refine Dl 0 rfl rfl<|Dl 0 rfl rfl<|B8 (α:=Option Addr×Nat) rfl rfl (eC D9 rfl rfl) (fun w f hM=>BI w f hM.vl [1] (some ⟨b53,0,none⟩) 1 (T1.var (0-1)).one (some ⟨b52,0,none⟩) 1 dC dC trivial ⟨Nat.le_refl _,.inr ⟨b53,0,rfl,hM.b1⟩⟩ (Ds (l:=[(.var (0-1),none,0)]) ⟨Ah.nil _ _ _ _,trivial⟩ hM.b0) p.2.2 qa qc hpb hM.f0) (fun _=>⟨Ah.mono,trivial⟩) ?_
 rintro⟨wa,wc⟩ -
 refine go As 1 [] (fun _=>Bh [1] (fun w f h _=>h.blk) rfl (fun _ h=>.tail _ (.tail _ h))<|AA As 2 [] (fun _=>Ag rfl ?_ Ai))
 exact go As 2 [] (fun b54=>fun _=>Bh [2] (fun w f h _=>h.blk) rfl (fun _ h=>.tail _ (.tail _ h))<|AA As 1 [] (fun _=>B3<|Dl 0 rfl rfl<|Dl 0 rfl rfl<|L2 (some ⟨b54,0,none⟩) trivial lE (fun w f hM=>⟨f,(hM.more (B':=[]) (F':=[fun w f=>AN w f (Q0 p::Hd i) (some ⟨b54,0,none⟩)]) nE (A1.mem ⟨⟨b54,wa,wc,some ⟨b45,0,none⟩,1,ea,rfl,hM.b1,hM.f0,⟨Nat.le_refl _,.inr ⟨b45,0,rfl,hM.b0⟩⟩,hM.f3⟩,trivial⟩) (Af.mem ⟨AN.mono,trivial⟩)).less (sD sZ) sR nE (mR [3,0])⟩)))
 rintro ea2 -
 dsimp only
 exact go As 6 [] (And.intro ⟨oM,oM⟩<|fun _=>Eb ((i+1,ea2)) (show Cp.length-(i+1)<Cp.length-i by omega) (show i+1≤_ by omega) lE (fun w f hM=>⟨_,by dsimp only;rw[We hx];exact hM⟩))
 refine go As 3 [] (fun _=>Hc<|go As 11 [] (fun _=>?_))
 obtain rfl:i=Cp.length:=by have:=of_decide_eq_false h3;omega
 exact AY (fun w f hM=>Cu rfl (Aj rfl) (Aj rfl)) (fun w f hM=>⟨(A,ea),f,rfl,hA,hM.exm,(fun b hb=>let ⟨h1,h2,h3⟩:=hM.mi b hb;h3.elim (fun h=>.inr ⟨h,h1,h2⟩) .inl),hM.res,⟨QO▸hM.f1,trivial⟩⟩)
def qZ:Ea:=⟨[(47,0,0),(47,1,2)],[],[],[],[(47,true,3),(25,true,2),(26,false,1),(30,false,1)],[(47,[.int .i64 0,.int .i64 0,.int .i64 0])],[],[]⟩
theorem Kt:qZ.Ok Tryz.prog:=⟨(And.intro aA (And.intro aY trivial)),trivial,trivial,trivial,(And.intro lU (And.intro CV (And.intro Hu (And.intro Vj trivial)))),(And.intro cP trivial),trivial,trivial⟩
theorem RR(w:World)(c2 c3 c4:Nat) :
  CallsD Tryz.prog 13 [.pointer (some ⟨c2,0,none⟩),.pointer (some ⟨c3,0,none⟩),.pointer (some ⟨c4,0,none⟩)].toArray .returning w fun r m w'=>∃x,r=.returned x∧m=.returning∧AV w w':=by
 refine DA (R:=fun w'=>AV w w') Tryz.func13 rfl rfl rfl rfl MP<|(?_:AF Tryz.prog _ (FN Tryz.prog _ (fun _ w'=>AV w w') fun _ _=>False) [] (X0 w (fun _=>0)) [] [] [] (.code _) [] _ []) w (fun _=>0) (C7 (fun _ _=>rfl) trivial trivial)
 exact go Kt 3 [] (fun _=>Fh rfl rfl (fun w f hM=>QA Qh rfl)<|go Kt 7 [] (fun _=>aG (fun w f hM=>DT rfl) (fun w f hM=>hM.exm.stp.ext)))
theorem TY(w:World)(f:Fq)(hv:Vl w f)(c2 c3 c4:Nat)(v2 x3 y3 v4:Value)(hc2:AQ w c2 [v2] 30)(hc3:AQ w c3 [x3,y3] 25)(hc4:AQ w c4 [v4] 26)(hf:f c2=0∧f c3=0∧f c4=0)(hn:c2≠c3∧c2≠c4∧c3≠c4)(er:Er) :
  CallsD Tryz.prog 13 [.pointer (some ⟨c2,0,none⟩),.pointer (some ⟨c3,0,none⟩),.pointer (some ⟨c4,0,none⟩)].toArray (.panicking (trI 47 er)) w fun r m w'=>∃x,r=.returned x∧m=.panicking [{v:=.iface 47 (.agg #[.int .i64 er.1,.int .i64 er.2.1,.int .i64 er.2.2]),recovered:=true}]∧(∃f',CM (fun b=>b=c2∨b=c3∨b=c4) w f w' f'∧AQ w' c2 [.slice none 0 0] 30∧AQ w' c3 [.int .i64 er.1,.int .i64 er.2.1] 25∧AQ w' c4 [.int .i64 er.2.2] 26):=by
 refine DA (R:=fun w'=>∃f',CM (fun b=>b=c2∨b=c3∨b=c4) w f w' f'∧AQ w' c2 [.slice none 0 0] 30∧AQ w' c3 [.int .i64 er.1,.int .i64 er.2.1] 25∧AQ w' c4 [.int .i64 er.2.2] 26) Tryz.func13 rfl rfl rfl rfl Q2<|(?_:AF Tryz.prog _ (FN Tryz.prog _ (fun _ w'=>∃f',CM (fun b=>b=c2∨b=c3∨b=c4) w f w' f'∧AQ w' c2 [.slice none 0 0] 30∧AQ w' c3 [.int .i64 er.1,.int .i64 er.2.1] 25∧AQ w' c4 [.int .i64 er.2.2] 26) fun _ _=>False) [] ⟨fun b=>b=c2∨b=c3∨b=c4,fun _=>False,fun _ _=>True,w,f⟩ [] [] [] (.code _) [] _ [⟨c2,[v2],30,false⟩,⟨c3,[x3,y3],25,false⟩,⟨c4,[v4],26,false⟩]) w f (dD hv hc2 hc3 hc4 hf hn)
 refine go Kt 3 [] (fun _=>Fh rfl rfl (fun w f hM=>PQ Qh rfl)<|go Kt 5 [] (fun _=>Fh rfl rfl (fun w f hM=>Tx rfl kG)<|go Kt 11 [0] (fun b1=>y<|fun _=>Dj [0] Ap (rd [0,1,2,3] (.br 4 (.br 5 (.br 6 .fin .fin) .fin) .fin)) rfl kR<|AA Kt 4 [0,0] (y<|y<|fun _=>Ag rfl ?_ Ai))))
 refine go Kt 2 [1] (y<|fun _=>Ax [0] rfl<|Ag rfl ?_ Ai)
 refine go Kt 2 [2] (y<|fun _=>Ax [0] rfl<|Ag rfl ?_ Ai)
 exact go Kt 2 [3] (y<|fun _=>Ax [0] rfl<|B3<|go Kt 1 [] (fun _=>aG (fun w f hM=>DT rfl) (fun w f hM=>⟨f,hM.exm,hM.blk _ lC,hM.blk _ Vy,hM.blk _ V7⟩)))
end Go.Proofs.YthofplgbhecdcaaGreatDoor
namespace Go.SP
open Go.SW Go.RowKit
def Nd.wft:Nd→Prop
 |.nil=>True
 |.cons op _ _ _ _ k r=>(op=41∨(op=43∧k.wfm 2)∨((op=44∨op=45∨op=46)∧k.wfm 3))∧r.wft
def FJ:List (List UInt8×T1)→Ty
 | []=>.nil
 |b::l=>b.2.cons (FJ l)
theorem Eu(b:List UInt8×T1):∀l:List (List UInt8×T1),FJ (l++[b])=(FJ l).snoc b.2
 | []=>by simp[FJ,Ty.snoc,Ty.app,T1.one]
 |c::l=>by
   simp only[List.cons_append,FJ,Eu b l]
   cases c.2 <;> rfl
def bC:List (List UInt8×List UInt8)→List Value
 | []=>[]
 |b::l=>S b.1::S b.2::bC l
theorem bC_app:∀a b:List (List UInt8×List UInt8),bC (a++b)=bC a++bC b
 | [],_=>rfl
 |x::a,b=>by simp only[List.cons_append,bC,bC_app a b]
theorem YP:∀a:List (List UInt8×List UInt8),(bC a).length=a.length*2
 | []=>rfl
 |x::a=>by simp only[bC,List.length_cons,YP a];omega
abbrev SI(l:List (List UInt8×T1)):List (List UInt8×List UInt8):=l.map fun b=>(b.1,[])
section
variable{s s1:CS}{e e1:Bg}{op ln co nm:Int}{tx:List UInt8}{k r:Nd}{out:List (List UInt8×T1)}{er:Er}
theorem TV(h:DP s e op ln co tx k=.ok (none,e1,s1)):CY s e (.cons op ln co tx nm k r) out=CY s1 e1 r out:=by rw[CY,h]
theorem IP{b:List UInt8×T1}(h:DP s e op ln co tx k=.ok (some b,e1,s1)):CY s e (.cons op ln co tx nm k r) out=CY s1 e1 r (out++[b]):=by rw[CY,h]
theorem DS(h:DP s e op ln co tx k=.error er):CY s e (.cons op ln co tx nm k r) out=.error er:=by rw[CY,h]
end
structure mD(Rl:CS→CS→Prop):Prop where
 refl:∀s,Rl s s
 trans:∀{s t u},Rl s t→Rl t u→Rl s u
 fresh:∀s,Rl s (AB s).2
 has:∀{s a b ln co s'},F2 s a b ln co=.ok s'→Rl s s'
section
variable{Rl:CS→CS→Prop}(hR:mD Rl)
include hR
theorem NR:∀(l:List Int)(s:CS),Rl s (B1 l s).2
 | [],s=>hR.refl s
 |_::l,s=>hR.trans (hR.fresh s) (NR l _)
theorem Rg{s s':CS}{tx:List UInt8}{k:Nat}{ln co:Int}{a:Ty}{o:T1}(h:Jc s tx k ln co=.ok (a,o,s')):Rl s s':=by
 unfold Jc at h
 split at h
 · cases h
 · split at h
   · cases h
     exact NR hR _ _
   · cases h
theorem Xr{s s':CS}{e:Bg}{tx:List UInt8}{ln co:Int}{t:T1}(h:HC s e tx ln co=.ok (t,s')):Rl s s':=by
 unfold HC at h
 split at h
 · cases h
 · split at h
   · cases h
   · cases h
     exact NR hR _ _
def nR(Rl:CS→CS→Prop)(p:Mt):Prop:=∀{s e op ln co tx nm k t s'},p s e op ln co tx nm k=.ok (t,s')→Rl s s'
def mA(Rl:CS→CS→Prop)(p:Ol):Prop:=∀{s e op ln co tx nm k t e' s'},p s e op ln co tx nm k=.ok (t,e',s')→Rl s s'
variable{p:Mt}(hp:nR Rl p)
include hp
theorem N5{e:Bg}:∀(k:Nd){s s':CS}{l:Ty},EH p e s k=.ok (l,s')→Rl s s'
 |.nil,_,_,_,h=>by cases h;exact hR.refl _
 |.cons op ln co tx nm k r,s,s',l,h=>by
   unfold EH at h
   split at h
   · cases h
   · rename_i h1
     split at h
     · cases h
     · rename_i h2
       cases h
       exact hR.trans (hp h1) (N5 r h2)
theorem So{e:Bg}:∀(k:Nd){s s':CS}{l:Ty},G6 p e s l k=.ok s'→Rl s s'
 |.nil,_,_,_,h=>by cases h;exact hR.refl _
 |.cons op ln co tx nm k r,s,s',l,h=>by
   unfold G6 at h
   split at h
   · cases h
   · rename_i h1
     split at h
     · cases h
     · rename_i h2
       exact hR.trans (hp h1) (hR.trans (hR.has h2) (So r h))
theorem Vb{e:Bg}:∀(k:Nd){s s':CS}{t t':T1},Ko p e s t k=.ok (t',s')→Rl s s'
 |.nil,_,_,_,_,h=>by cases h;exact hR.refl _
 |.cons op ln co tx nm k r,s,s',t,t',h=>by
   unfold Ko at h
   split at h
   · cases h
   · rename_i h1
     split at h
     · cases h
     · rename_i h2
       exact hR.trans (hp h1) (hR.trans (hR.fresh _) (hR.trans (hR.has h2) (Vb r h)))
theorem Qs{s s':CS}{e:Bg}{ln co o l c m:Int}{tx x:List UInt8}{k:Nd}{t:T1}(h:H8 p s e ln co tx o l c x m k=.ok (t,s')):Rl s s':=by
 unfold H8 at h
 split at h
 · cases h
 · rename_i h1
   split at h
   · cases h
   · rename_i h2
     cases h
     exact hR.trans (hR.fresh _) (hR.trans (hp h1) (hR.has h2))
omit hp
theorem RN:∀(k:Nd){s:CS}{e:Bg},Rl s (FD s e k).2.2
 |.nil,_,_=>hR.refl _
 |.cons _ _ _ _ _ _ .nil,_,_=>hR.refl _
 |.cons _ _ _ _ _ _ (.cons o l c x m k r),_,_=>hR.trans (hR.fresh _) (RN (.cons o l c x m k r))
variable{q:Ol}(hq:mA Rl q)
include hq
theorem OD:∀(k:Nd){s s':CS}{e e':Bg}{l:Ty},G7 q s e l k=.ok (e',s')→Rl s s'
 |.nil,_,_,_,_,_,h=>by cases h;exact hR.refl _
 |.cons op ln co tx nm k r,s,s',e,e',l,h=>by
   unfold G7 at h
   split at h
   · cases h
   · rename_i h1
     split at h
     · cases h
     · rename_i h2
       exact hR.trans (hq h1) (hR.trans (hR.has h2) (OD r h))
theorem OG:∀(k:Nd){s s':CS}{e e':Bg}{l:Ty},FH q s e k=.ok (l,e',s')→Rl s s'
 |.nil,_,_,_,_,_,h=>by cases h;exact hR.refl _
 |.cons op ln co tx nm k r,s,s',e,e',l,h=>by
   unfold FH at h
   split at h
   · cases h
   · rename_i h1
     split at h
     · cases h
     · rename_i h2
       cases h
       exact hR.trans (hq h1) (OG r h2)
theorem Zw{s s':CS}{e e':Bg}{op ln co:Int}{tx:List UInt8}{k:Nd}{t:T1}(h:Dn q s e op ln co tx k=.ok (t,e',s')):Rl s s':=by
 unfold Dn at h
 repeat' (split at h)
 all_goals first|(cases h;first|exact hR.refl _|exact hR.fresh _|exact hR.trans (Rg hR (by assumption)) (OD hR hq _ (by assumption))|exact OG hR hq _ (by assumption))|cases h
omit hq
theorem UE:∀n,mA Rl (C6 n)
 |0=>fun h=>by cases h
 |n+1=>fun h=>by
   unfold C6 at h
   split at h
   · cases h
   · rename_i h1
     split at h
     · cases h
     · cases h
       exact Zw hR (UE n) h1
include hp
theorem KW{n:Nat}{e:Bg}{pt:T1}:∀(k:Nd){s s':CS}{t:Option T1}{u:T1},DN n p e pt s t k=.ok (u,s')→Rl s s'
 |.nil,_,_,_,_,h=>by unfold DN at h;cases h;exact hR.refl _
 |.cons _ _ _ _ _ ks r,s,s',t,u,h=>by
   unfold DN at h
   split at h
   · split at h
     · cases h
     · rename_i h1
       split at h
       · cases h
       · rename_i h2
         split at h
         · cases h
         · rename_i h3
           refine hR.trans (UE hR _ h1) (hR.trans (hR.has h2) (hR.trans (hp h3) ?_))
           split at h
           · split at h
             · cases h
             · rename_i h4
               exact hR.trans (hR.has h4) (KW r h)
           · exact KW r h
   · cases h
     exact hR.refl _
theorem Yw{n:Nat}{s s':CS}{e:Bg}{op ln co:Int}{tx:List UInt8}{k:Nd}{t:T1}(h:Bp n p s e op ln co tx k=.ok (t,s')):Rl s s':=by
 have tr:=@mD.trans _ hR
 have hs:=@mD.has _ hR
 unfold Bp at h
 by_cases o1:(op==1)=true
 · rw[if_pos o1] at h
   cases h;exact hR.refl _
 rw[if_neg o1] at h
 by_cases o2:(op==2)=true
 · rw[if_pos o2] at h
   cases h;exact hR.refl _
 rw[if_neg o2] at h
 by_cases o3:(op==3)=true
 · rw[if_pos o3] at h
   cases h;exact hR.refl _
 rw[if_neg o3] at h
 by_cases o4:(op==4)=true
 · rw[if_pos o4] at h
   cases h;exact hR.refl _
 rw[if_neg o4] at h
 by_cases o5:(op==5)=true
 · rw[if_pos o5] at h
   exact Xr hR h
 rw[if_neg o5] at h
 by_cases o6:(op==6)=true
 · rw[if_pos o6] at h
   split at h
   · cases h
   rename_i h1
   split at h
   · cases h
   rename_i h2
   cases h
   exact tr (Rg hR h1) (So hR hp _ h2)
 rw[if_neg o6] at h
 by_cases o7:(op==7)=true
 · rw[if_pos o7] at h
   split at h
   · cases h
     exact hR.refl _
   simp only at h
   split at h
   · cases h
   rename_i h1
   cases h
   exact tr (RN hR _) (hp h1)
 rw[if_neg o7] at h
 by_cases o8:(op==8)=true
 · rw[if_pos o8] at h
   split at h
   · cases h
     exact hR.refl _
   split at h
   · cases h
   rename_i h1
   exact tr (hp h1) (Vb hR hp _ h)
 rw[if_neg o8] at h
 by_cases o9:(op==9)=true
 · rw[if_pos o9] at h
   split at h
   · split at h
     · cases h
     rename_i h1
     split at h
     · cases h
     exact tr (hp h1) (hp h)
   · cases h
     exact hR.refl _
 rw[if_neg o9] at h
 by_cases o10:(op==10)=true
 · rw[if_pos o10] at h
   split at h
   · split at h
     · cases h
     rename_i h1
     split at h
     · cases h
     exact tr (Qs hR hp h1) (hp h)
   · cases h
     exact hR.refl _
 rw[if_neg o10] at h
 by_cases o11:(op==11)=true
 · rw[if_pos o11] at h
   split at h
   · split at h
     · cases h
     rename_i h1
     split at h
     · cases h
     rename_i h2
     split at h
     · cases h
     rename_i h3
     split at h
     · cases h
     rename_i h4
     split at h
     · cases h
     rename_i h5
     cases h
     exact tr (hp h1) (tr (hs h2) (tr (hp h3) (tr (hp h4) (hs h5))))
   · cases h
     exact hR.refl _
 rw[if_neg o11] at h
 by_cases o12:(op==12)=true
 · rw[if_pos o12] at h
   split at h
   · cases h
   rename_i h1
   cases h
   exact N5 hR hp _ h1
 rw[if_neg o12] at h
 by_cases o13:(op==13)=true
 · rw[if_pos o13] at h
   split at h
   · cases h
   rename_i h1
   cases h
   exact N5 hR hp _ h1
 rw[if_neg o13] at h
 by_cases o14:(op==14)=true
 · rw[if_pos o14] at h
   split at h
   · cases h
     exact hR.refl _
   split at h
   · cases h
   rename_i h1
   exact tr (hp h1) (KW hR hp _ h)
 rw[if_neg o14] at h
 by_cases o15:(op==15)=true
 · rw[if_pos o15] at h
   split at h
   · cases h
     exact hR.refl _
   split at h
   · cases h
   rename_i h1
   exact tr (hp h1) (KW hR hp _ h)
 rw[if_neg o15] at h
 by_cases o16:(op==16)=true
 · rw[if_pos o16] at h
   split at h
   · cases h
     exact hR.refl _
   split at h
   · cases h
   rename_i h1
   split at h
   · cases h
   rename_i h2
   cases h
   exact tr (hp h1) (tr (hs h2) (hR.fresh _))
 rw[if_neg o16] at h
 split at h
 · cases h
   exact hR.refl _
 exact hp h
omit hp
theorem GM:∀n,nR Rl (Co n)
 |0=>fun h=>by cases h
 |n+1=>fun h=>by
   unfold Co at h
   split at h
   · cases h
   · rename_i h1
     split at h
     · cases h
     · cases h
       exact Yw hR (GM n) h1
end
def uS(s s':CS):Prop:=s'.cons=s.cons∧s'.datas=s.datas∧s'.roots=s.roots∧s'.vars=s.vars
theorem UH{s s':CS}{a b:T1}{ln co:Int}(h:F2 s a b ln co=.ok s'):∃m,Gz s.sol a b=.ok m∧s'={s with sol:=m}:=by
 unfold F2 at h
 split at h
 · cases h
 · cases h
   exact⟨_,by assumption,rfl⟩
theorem JQ:mD uS where
 refl _:=⟨rfl,rfl,rfl,rfl⟩
 trans h1 h2:=⟨h2.1.trans h1.1,h2.2.1.trans h1.2.1,h2.2.2.1.trans h1.2.2.1,h2.2.2.2.trans h1.2.2.2⟩
 fresh _:=⟨rfl,rfl,rfl,rfl⟩
 has h:=by obtain⟨m,-,rfl⟩:=UH h;exact⟨rfl,rfl,rfl,rfl⟩
section
variable{s s1 s2:CS}{e e1:Bg}{op ln co nm o l c m o2 l2 c2 m2:Int}{tx x x2:List UInt8}{kids k r k2 r2:Nd}{t q:T1}{er:Er}
theorem Wd(h:(op==41)=true)(hd:G8 s ln co tx kids=.ok s1):DP s e op ln co tx kids=.ok (none,e,s1):=by unfold DP;rw[if_pos h,hd]
theorem SQ(h:(op==41)=true)(hd:G8 s ln co tx kids=.error er):DP s e op ln co tx kids=.error er:=by unfold DP;rw[if_pos h,hd]
theorem Xj(h:(op==44)=true)(hx:Co (k.size+1) s e o l c x m k=.ok (t,s1))(hw:Hi s1 e tx t (C2 (k.size+1) o k) ln co=.ok e1):DP s e op ln co tx (.cons o l c x m k r)=.ok (some (tx,t),e1,s1):=by
 obtain rfl:=beq_iff_eq.1 h;unfold DP;rw[if_neg (by decide)];simp only;rw[if_neg (by decide),if_pos (by decide),hx];simp only;rw[hw]
theorem Wl(h:(op==44)=true)(hx:Co (k.size+1) s e o l c x m k=.error er):DP s e op ln co tx (.cons o l c x m k r)=.error er:=by
 obtain rfl:=beq_iff_eq.1 h;unfold DP;rw[if_neg (by decide)];simp only;rw[if_neg (by decide),if_pos (by decide),hx]
theorem W9(h:(op==44)=true)(hx:Co (k.size+1) s e o l c x m k=.ok (t,s1))(hw:Hi s1 e tx t (C2 (k.size+1) o k) ln co=.error er):DP s e op ln co tx (.cons o l c x m k r)=.error er:=by
 obtain rfl:=beq_iff_eq.1 h;unfold DP;rw[if_neg (by decide)];simp only;rw[if_neg (by decide),if_pos (by decide),hx];simp only;rw[hw]
theorem XI(h:(op==45)=true)(hx:H8 (Co (k.size+1)) s e ln co tx o l c x m k=.ok (t,s1))(hw:Hi s1 e tx t true ln co=.ok e1):DP s e op ln co tx (.cons o l c x m k r)=.ok (some (tx,t),e1,s1):=by
 obtain rfl:=beq_iff_eq.1 h;unfold DP;rw[if_neg (by decide)];simp only;rw[if_neg (by decide),if_neg (by decide),if_pos (by decide),hx];simp only;rw[hw]
theorem VJ(h:(op==45)=true)(hx:H8 (Co (k.size+1)) s e ln co tx o l c x m k=.error er):DP s e op ln co tx (.cons o l c x m k r)=.error er:=by
 obtain rfl:=beq_iff_eq.1 h;unfold DP;rw[if_neg (by decide)];simp only;rw[if_neg (by decide),if_neg (by decide),if_pos (by decide),hx]
theorem WT(h:(op==45)=true)(hx:H8 (Co (k.size+1)) s e ln co tx o l c x m k=.ok (t,s1))(hw:Hi s1 e tx t true ln co=.error er):DP s e op ln co tx (.cons o l c x m k r)=.error er:=by
 obtain rfl:=beq_iff_eq.1 h;unfold DP;rw[if_neg (by decide)];simp only;rw[if_neg (by decide),if_neg (by decide),if_pos (by decide),hx];simp only;rw[hw]
theorem bT(h:(op==46)=true)(hx:Co (k.size+1) s e o l c x m k=.ok (t,s1)):DP s e op ln co tx (.cons o l c x m k r)=.ok (some ([],t),e,s1):=by
 obtain rfl:=beq_iff_eq.1 h;unfold DP;rw[if_neg (by decide)];simp only;rw[if_neg (by decide),if_neg (by decide),if_neg (by decide),hx]
theorem YH(h:(op==46)=true)(hx:Co (k.size+1) s e o l c x m k=.error er):DP s e op ln co tx (.cons o l c x m k r)=.error er:=by
 obtain rfl:=beq_iff_eq.1 h;unfold DP;rw[if_neg (by decide)];simp only;rw[if_neg (by decide),if_neg (by decide),if_neg (by decide),hx]
theorem N4(h:Dd s.datas [] o l c x k=.ok q):Gw s.datas [] (.cons o l c x m k .nil)=.ok q.one:=by
 rw[Kg,h];simp only[Gw];cases q <;> rfl
theorem SN(h:(op==43)=true)(hr:s.roots.contains tx=true):DP s e op ln co tx (.cons o l c x m k r)=.error (ln,co,11):=by
 obtain rfl:=beq_iff_eq.1 h;unfold DP;rw[if_neg (by decide)];simp only;rw[if_pos (by decide),if_pos hr]
theorem Uv(h:(op==43)=true)(hr:s.roots.contains tx=false)(ht:Dd s.datas [] o l c x k=.error er):DP s e op ln co tx (.cons o l c x m k r)=.error er:=by
 obtain rfl:=beq_iff_eq.1 h;unfold DP;rw[if_neg (by decide)];simp only;rw[if_pos (by decide),if_neg (by rw[hr];decide),J8 ht]
theorem Ur(h:(op==43)=true)(hr:s.roots.contains tx=false)(ht:Dd s.datas [] o l c x k=.ok q)(hx:Co (k2.size+1) {s with roots:=tx::s.roots} e o2 l2 c2 x2 m2 k2=.error er):DP s e op ln co tx (.cons o l c x m k (.cons o2 l2 c2 x2 m2 k2 r2))=.error er:=by
 obtain rfl:=beq_iff_eq.1 h;unfold DP;rw[if_neg (by decide)];simp only;rw[if_pos (by decide),if_neg (by rw[hr];decide),N4 ht];simp only;rw[hx]
theorem T6(h:(op==43)=true)(hr:s.roots.contains tx=false)(ht:Dd s.datas [] o l c x k=.ok q)(hx:Co (k2.size+1) {s with roots:=tx::s.roots} e o2 l2 c2 x2 m2 k2=.ok (t,s1))(hh:F2 s1 q t ln co=.error er):DP s e op ln co tx (.cons o l c x m k (.cons o2 l2 c2 x2 m2 k2 r2))=.error er:=by
 obtain rfl:=beq_iff_eq.1 h;unfold DP;rw[if_neg (by decide)];simp only;rw[if_pos (by decide),if_neg (by rw[hr];decide),N4 ht];simp only;rw[hx];simp only
 rw[show q.one.hd=q by cases q <;> rfl,hh]
theorem Wa(h:(op==43)=true)(hr:s.roots.contains tx=false)(ht:Dd s.datas [] o l c x k=.ok q)(hx:Co (k2.size+1) {s with roots:=tx::s.roots} e o2 l2 c2 x2 m2 k2=.ok (t,s1))(hh:F2 s1 q t ln co=.ok s2) :
   DP s e op ln co tx (.cons o l c x m k (.cons o2 l2 c2 x2 m2 k2 r2))=.ok (some (tx,.con Dr q.one),⟨tx,.con Dr q.one,[]⟩::e,s2):=by
 obtain rfl:=beq_iff_eq.1 h;unfold DP;rw[if_neg (by decide)];simp only;rw[if_pos (by decide),if_neg (by rw[hr];decide),N4 ht];simp only;rw[hx];simp only
 rw[show q.one.hd=q by cases q <;> rfl,hh]
end
def S7(w:World)(f:Fq)(l:List (List UInt8×List UInt8))(a:Option Addr)(c:Nat):Prop:=l.length≤c∧(l=[]∨∃b off,a=some ⟨b,off,none⟩∧Cs w f b off (bC l))
theorem S7.mono{l:List (List UInt8×List UInt8)}{a:Option Addr}{c:Nat}:G0 (fun w f=>S7 w f l a c):=fun _ _ _ _ h hF=>⟨h.1,h.2.imp id fun⟨b,off,h1,h2⟩=>⟨b,off,h1,h2.mono hF⟩⟩
def Wx(nds:Nd)(w:World)(f:Fq)(v:Value)(w':World):Prop:=∃f',CM (fun _=>False) w f w' f' ∧
 match Cq nds with
 |.error er=>v=.tuple #[.slice none 0 0,.agg #[.int .i64 er.1,.int .i64 er.2.1],.int .i64 er.2.2]
 |.ok bs=>∃a c,v=.tuple #[.slice a bs.length c,.agg #[.int .i64 0,.int .i64 0],.int .i64 0]∧S7 w' f' bs a c
def Q7(l:List (List UInt8×List UInt8))(r:List (List UInt8×T1)):List (List UInt8×List UInt8):=l++SI r
theorem VY{s:CS}{n:List UInt8}{t f:T1}{r:List (List UInt8×T1)}{d:List (List UInt8×List UInt8)}(h:FG s t 0 0=.ok f) :
   (match II s ((n,t)::r) with|.error x=>.error x|.ok l=>.ok (d++l):RI (List (List UInt8×List UInt8)))=(match II s r with|.error x=>.error x|.ok l=>.ok ((d++[(n,OS f)])++l)):=by
 rw[II,h]
 simp only
 cases II s r with
 |error x=>rfl
 |ok z=>simp
theorem Tt{s:CS}{r:List (List UInt8×T1)}:II s r=(match II s r with|.error x=>.error x|.ok l=>.ok ([]++l)):=by
 cases II s r <;> rfl
theorem Ys{s:CS}{n:List UInt8}{t:T1}{r:List (List UInt8×T1)}{er:Er}(h:FG s t 0 0=.error er):II s ((n,t)::r)=.error er:=by rw[II,h]
theorem Wt{d:List (List UInt8×List UInt8)}{n y:List UInt8}{t:T1}{r:List (List UInt8×T1)}:EC (bC (Q7 d ((n,t)::r))) (d.length*2+1) [S y]=bC (Q7 (d++[(n,y)]) r):=by
 unfold Q7
 rw[bC_app,bC_app,bC_app]
 have hl:=YP d
 rw[← hl]
 generalize bC d=D
 simp[EC,SI,bC,List.set_append_right]
theorem R3{a:List UInt8}:∀l:List (List UInt8),(FC (l.map fun k=>(k,Value.bool true)) a).getD (.bool false)=.bool (l.contains a)
 | []=>rfl
 |b::l=>by
   simp only[List.map_cons,FC,List.contains_cons]
   by_cases h:a=b
   · subst h;simp
   · rw[show (a==b)=false from beq_eq_false_iff_ne.2 h]
     simpa using R3 l
theorem DR.addRoot{s:CS}(h:DR s){a:List UInt8}(hn:s.roots.contains a=false):DR {s with roots:=a::s.roots} :=
 {h with
   dr:=⟨by
     have:∀l:List (List UInt8),l.contains a=false→FC (l.map fun k=>(k,Value.bool true)) a=none:=by
       intro l
       induction l with
       |nil=>intro _;rfl
       |cons b l ih =>
         intro hc
         rw[List.contains_cons,Bool.or_eq_false_iff] at hc
         simp only[List.map_cons,FC]
         rw[hc.1]
         simpa using ih hc.2
     exact this _ hn,h.dr⟩}
theorem FY{nds:Nd}{er:Er}(h:CY VO Mv nds []=.error er):Cq nds=.error er:=by rw[Cq,h]
theorem fI{nds:Nd}{out:List (List UInt8×T1)}{s:CS}(h:CY VO Mv nds []=.ok (out,s)):Cq nds=II s out:=by rw[Cq,h]
theorem gF{X:Cx}{w:World}{f:Fq}{H:List HB}{R:List RB}{B:List FB}{Fs:List (World→Fq→Prop)}{T:TypeId}{a:Option Addr}{c:Nat}{l:List (List UInt8×List UInt8)}(hM:AX X w f H (⟨T,2,a,c,l.length,bC l⟩::R) B Fs):∃f',AX X w f' H R B Fs∧S7 w f' l a c:=by
 have hr:=hM.row _ (.head _)
 rcases hr.2 with ⟨_,_,hz⟩|⟨b,q,ha,hb,hmc,_,hq,ht⟩
 · simp only at hz
   exact⟨f,hM.less (List.Sublist.refl _) (List.sublist_cons_self _ _) (fun _ h=>h) (fun _ h=>h),oM,.inl (by cases l with|nil=>rfl|cons _ _=>simp at hz)⟩
 · simp only at ha
   subst ha
   obtain⟨f',hM'⟩:=hM.done (i:=0) rfl rfl
   refine⟨f',hM'.less (List.Sublist.refl _) (List.Sublist.refl _) (fun _ h=>.tail _ h) (fun _ h=>h),hmc,.inr ⟨b,0,rfl,hM'.fro _ (.head _)⟩⟩
end Go.SP
namespace Go.Proofs.YthofplgbhecdcaaGreatDoor
open Go.SW Go.SP Go.RowKit
def pU:Ea:=⟨[(54,0,0),(64,3,3),(54,2,3),(54,1,1),(54,4,5),(36,1,1)],[(23,54,6),(52,56,4),(30,36,2)],[],[],[(54,true,6),(3,false,1),(9,false,1),(25,true,2),(23,false,1),(56,true,4),(30,false,1),(26,false,1)],[(30,[.slice none 0 0]),(25,[.int .i64 0,.int .i64 0]),(26,[.int .i64 0]),(54,[.int .i64 0,.int .i64 0,.int .i64 0,.string ⟨#[]⟩,.int .i64 0,.slice none 0 0]),(56,[.int .i64 0,.int .i64 0,.string ⟨#[]⟩,.slice none 0 0]),(36,[.string ⟨#[]⟩,.string ⟨#[]⟩])],[(36,[(0,1),(1,1)]),(25,[(0,1),(1,1)])],[]⟩
theorem AS:pU.Ok Tryz.prog:=⟨(And.intro IY (And.intro cB (And.intro GH (And.intro GJ (And.intro Ga (And.intro UN trivial)))))),(And.intro EI (And.intro DI (And.intro eQ trivial))),trivial,trivial,(And.intro Bc (And.intro CZ (And.intro Hx (And.intro CV (And.intro EM (And.intro AJ (And.intro Vj (And.intro Hu trivial)))))))),(And.intro nX (And.intro V8 (And.intro dY (And.intro G5 (And.intro DD (And.intro mQ trivial)))))),(And.intro lX (And.intro Y8 trivial)),trivial⟩
theorem Zo:∀i,i≤8→DR (⟨[],0,Xd i,[],[],-1⟩:CS)
 |0,_=>⟨trivial,fun _ _ h=>(by cases h),trivial,trivial,trivial,Int.le_refl _⟩
 |i+1,h=>by
  obtain⟨⟨nm,dt,nu,ar⟩,hx⟩:∃v,It[i]?=some v:=⟨_,List.getElem?_eq_getElem (l:=It) (by have:It.length=8:=rfl;omega)⟩
  have har:=RW hx
  rw[NZ hx]
  exact (Zo i oM).addCons (NL i oM _ hx) ⟨by rw[KR];dsimp only;omega,Nk _,Df (Rj hx),Nat.zero_le _⟩
theorem rY:DR VO:=Zo 8 (Nat.le_refl _)
theorem lQ:Gg Mv:=by
 rw[← QO]
 intro b hb
 unfold Hd at hb
 rw[List.take_length,List.mem_reverse] at hb
 obtain⟨p,hp,rfl⟩:=List.mem_map.1 hb
 exact⟨JF (GK (B7 _)) (NO p hp),by dsimp only[Q0];decide⟩
theorem VH(w:World)(f:Fq)(hv:Vl w f)(tx:List UInt8)(t:T1)(b:Nat)(hT:Ah w f t.one (some ⟨b,0,none⟩) 1) :
  BF Tryz.prog 20 #[S tx,.slice (some ⟨b,0,none⟩) 1 1] w (BV (α:=Option Addr×Nat) (fun x=>tV (.con tx t.one) x.1 x.2) (fun _=>True) (fun x=>[fun w f=>Ah w f t.one x.1 x.2]) w f):=by
 have hl:t.one.len=1:=by cases t <;> rfl
 have h:=CU w f hv tx t.one (some ⟨b,0,none⟩) 1 (by rw[hl];decide) hT
 rwa[hl] at h
theorem Mw{nds:Nd}{w:World}{f:Fq}{b2 b3 b4:Nat}(hn:b2≠b3∧b2≠b4∧b3≠b4){fn:Func}(hr:fn.results=#[.cell 2 30,.cell 3 25,.cell 4 26]){σ:Bo}(h2:σ 2=some (.pointer (some ⟨b2,0,none⟩)))(h3:σ 3=some (.pointer (some ⟨b3,0,none⟩)))(h4:σ 4=some (.pointer (some ⟨b4,0,none⟩))){er:Er}(hm:Cq nds=.error er){w':World}{f':Fq}(hE:CM (fun _=>False) w f w' f'){v2 x3 y3 v4:Value}
  (k2:AQ w' b2 [v2] 30∧f' b2=0∧(true=true→w.heap.size≤b2)) (k3:AQ w' b3 [x3,y3] 25∧f' b3=0∧(true=true→w.heap.size≤b3)) (k4:AQ w' b4 [v4] 26∧f' b4=0∧(true=true→w.heap.size≤b4))
  (tmps:Array Value) (ht:∀t,t∈[2,3,4]→∀v,σ t=some v→tmps.getD t undef=v):Leaves Tryz.prog fn tmps (fun e w'=>∃v,e=.returned v∧Wx nds w f v w') [{target:=.fn (.func 13) ([.pointer (some ⟨b2,0,none⟩),.pointer (some ⟨b3,0,none⟩),.pointer (some ⟨b4,0,none⟩)]:List Value).toArray,args:=#[]}] (.panicking (trI 47 er)) w':=by
 refine FI (by simp) YZ (TY w' f' hE.val b2 b3 b4 v2 x3 y3 v4 k2.1 k3.1 k4.1 ⟨k2.2.1,k3.2.1,k4.2.1⟩ hn er) fun wz hz=>?_
 rw[KA]
 obtain⟨f3,e3,z2,z3,z4⟩:=hz
 refine BW (σ:=AL (E2 2 (.pointer (some ⟨b2,0,none⟩)) 3 (.pointer (some ⟨b3,0,none⟩))) 4 (.pointer (some ⟨b4,0,none⟩))) (fun t v hv=>?_) (Ex hr (B2 rfl Vj z2 rfl) (Ac rfl CV z3 rfl) (B2 rfl Hu z4 rfl)) ⟨_,rfl,f3,CM.trans0 hE e3 (fun b hb=>?_),by rw[hm]⟩
 ·
  by_cases e4:t=4
  · subst e4;exact ht 4 (by simp) v (h4.trans hv)
  by_cases e5:t=3
  · subst e5;exact ht 3 (by simp) v (h3.trans hv)
  by_cases e2:t=2
  · subst e2;exact ht 2 (by simp) v (h2.trans hv)
  have n4:Nat.beq t 4=false:=by cases h:Nat.beq t 4 with|false=>rfl|true=>exact absurd (Nat.eq_of_beq_eq_true h) e4
  have n3:Nat.beq t 3=false:=by cases h:Nat.beq t 3 with|false=>rfl|true=>exact absurd (Nat.eq_of_beq_eq_true h) e5
  have n2:Nat.beq t 2=false:=by cases h:Nat.beq t 2 with|false=>rfl|true=>exact absurd (Nat.eq_of_beq_eq_true h) e2
  simp[AL,Go.SW.e0,n2,n3,n4] at hv
 ·
  rcases hb with rfl|rfl|rfl
  · exact k2.2.2 rfl
  · exact k3.2.2 rfl
  · exact k4.2.2 rfl
theorem mM{nds:Nd}{w:World}{f:Fq}{b2 b3 b4:Nat}{fn:Func}(hr:fn.results=#[.cell 2 30,.cell 3 25,.cell 4 26]){σ:Bo}(h2:σ 2=some (.pointer (some ⟨b2,0,none⟩)))(h3:σ 3=some (.pointer (some ⟨b3,0,none⟩)))(h4:σ 4=some (.pointer (some ⟨b4,0,none⟩))){bs:List (List UInt8×List UInt8)}(hm:Cq nds=.ok bs){w':World}{f':Fq}(hE:CM (fun _=>False) w f w' f'){a:Option Addr}{c:Nat}(hB:S7 w' f' bs a c)
  (k2:AQ w' b2 [.slice a bs.length c] 30) (k3:AQ w' b3 [.int .i64 0,.int .i64 0] 25) (k4:AQ w' b4 [.int .i64 0] 26)
  (tmps:Array Value) (ht:∀t v,σ t=some v→tmps.getD t undef=v):Leaves Tryz.prog fn tmps (fun e w'=>∃v,e=.returned v∧Wx nds w f v w') [{target:=.fn (.func 13) ([.pointer (some ⟨b2,0,none⟩),.pointer (some ⟨b3,0,none⟩),.pointer (some ⟨b4,0,none⟩)]:List Value).toArray,args:=#[]}] .returning w':=by
 refine FI (by simp) YZ (RR w' b2 b3 b4) fun wz hz=>?_
 have e3:=CM.of_ext hz hE.val
 refine BW ht (Ex hr (B2 h2 Vj (k2.ext hz) rfl) (Ac h3 CV (k3.ext hz) rfl) (B2 h4 Hu (k4.ext hz) rfl)) ⟨_,rfl,f',CM.trans0 hE e3 (fun b hb=>hb.elim),?_⟩
 rw[hm]
 exact⟨a,c,rfl,S7.mono _ _ _ _ hB (e3.fle hE.val (fun _ h=>h.elim))⟩
set_option maxHeartbeats 2000000 in
theorem TP(w:World)(f:Fq)(hv:Vl w f)(hG:FE w f)(nds:Nd)(na:Option Addr)(nc:Nat)(hwt:nds.wft)(hsz:nds.size≤200000)(htb:nds.txb)(hN:AK w f nds na nc) :
  BF Tryz.prog 6 #[.slice na nds.len nc] w (Wx nds w f):=by
 have hkl0:=Nd.len_le nds
 refine iE (K:=[2,3,4]) (X:=X0 w f) (H:=[]) (R:=[]) (B:=[]) (Fs:=[fun w f=>AK w f nds na nc,fun w f=>FE w f]) (f:=f) Tryz.func6 rfl rfl rfl (C7 hv ⟨hN,hG,trivial⟩ ⟨AK.mono,FE.mono,trivial⟩)<|go AS 8 [] (fun b1=>fun b2=>fun b3=>fun _=>Ky (p:=b1≠b2∧b1≠b3∧b2≠b3) (fun w f hM=>by have h9:=hM.nd;simp[CP] at h9;exact⟨fun e=>h9.2 e.symm,fun e=>h9.1.2 e.symm,fun e=>h9.1.1 e.symm⟩) fun hn=>go AS 1 [] (fun _=>Fh rfl rfl (fun w f hM=>Tv rfl)<|tG rfl rfl<|go AS 4 [] (fun _=>bG (XX:=fun _ _=>False) rfl rfl (eC fX rfl rfl) (fun w f hM=>(TN w f hM.vl hM.f1).retP) (fun _=>Au.stab) (fun _=>⟨AN.mono,trivial⟩) (fun _ _ _ _ _ h=>h.elim) ?_)))
 rintro⟨A,ea⟩ hA
 dsimp only at hA ⊢
 refine go AS 21 [] (fun _=>QJ 36 2<|QJ 56 4 ?_)
 refine H9 (α:=Nat×Nd×List (List UInt8×T1)×List Value×Option Addr×Nat×Option Addr×Nat×Bg×Option Addr×CS) (fun x=>x.2.1.len) (fun x=>x.1+x.2.1.len=nds.len∧CY VO Mv nds []=CY x.2.2.2.2.2.2.2.2.2.2 x.2.2.2.2.2.2.2.2.1 x.2.1 x.2.2.1∧x.2.2.1.length≤x.1∧(FJ x.2.2.1).bnd∧Gg x.2.2.2.2.2.2.2.2.1∧x.2.1.wft∧x.2.1.txb∧DR x.2.2.2.2.2.2.2.2.2.2∧x.2.1.size≤nds.size∧x.2.2.2.2.2.2.2.2.2.2.fresh+200002*x.2.1.size≤200002*nds.size∧x.2.1.size-(nds.size:Int)-1≤x.2.2.2.2.2.2.2.2.2.2.vars∧x.2.2.2.2.2.2.2.2.2.2.vars≤0) (fun x=>(E9 2 (.pointer (some ⟨b1,0,none⟩)) 3 (.pointer (some ⟨b2,0,none⟩)) 4 (.pointer (some ⟨b3,0,none⟩)) 5 (.pointer (some ⟨A.cb,0,none⟩)) 6 (.pointer x.2.2.2.2.2.2.2.2.2.1) 7 (.slice x.2.2.2.2.1 x.2.2.1.length x.2.2.2.2.2.1) 19 (.slice na nds.len nc) 20 (.int .i64 (nds.len:Int)) 21 (.int .i64 (x.1:Int)))) (fun x=>⟨fun _=>False,BB A,Au 64 130 A x.2.2.2.2.2.2.2.2.2.2,w,f⟩) (fun x=>[⟨b3,[.int .i64 0],26,true⟩,⟨b2,[.int .i64 0,.int .i64 0],25,true⟩,⟨b1,[.slice x.2.2.2.2.2.2.1 x.2.2.1.length x.2.2.2.2.2.2.2.1],30,true⟩]) (fun x=>[⟨56,4,x.2.2.2.2.1,x.2.2.2.2.2.1,x.2.2.1.length,x.2.2.2.1⟩,⟨36,2,x.2.2.2.2.2.2.1,x.2.2.2.2.2.2.2.1,x.2.2.1.length,bC (SI x.2.2.1)⟩]) (fun x=>[]) (fun x=>[fun w f=>Az w f na x.1 x.2.1,fun w f=>Bl w f (FJ x.2.2.1) x.2.2.2.1,fun w f=>AN w f x.2.2.2.2.2.2.2.2.1 x.2.2.2.2.2.2.2.2.2.1,fun w f=>FE w f]) (0,nds,[],[],none,0,none,0,Mv,ea,VO) ⟨Nat.zero_add _,rfl,Nat.le_refl _,trivial,lQ,hwt,htb,rY,Nat.le_refl _,by dsimp only[VO];omega,by dsimp only[VO];omega,(by decide:(-1:Int)≤0)⟩ lE (fun w f hM=>hM.more (B':=[]) (F':=[fun w f=>Az w f na 0 nds,fun w f=>Bl w f .nil []]) nE (A1.mem ⟨AK.at hM.f1,rfl,trivial⟩) (Af.mem ⟨Az.mono,Bl.mono,trivial⟩) |>.less sR sR nE (mR [0,1,2,4])) ?_
 rintro⟨i,r,out,txs,ta,tc,oa,oc,e,ea,s⟩ ⟨hi,hti,hol,htyb,heB,hwt2,htx,hw,hrs,hfr,hv1,hv2⟩
 dsimp only at hi hti hol htyb heB hwt2 htx hw hrs hfr hv1 hv2 ⊢
 refine go AS 6 [] (fun _=>AZ 22 rfl rfl (fun h1=>?_) (fun h1=>?_))
 refine go AS 6 [] (fun _=>?_)
 have hil:i<nds.len:=by have:=of_decide_eq_true h1;omega
 obtain⟨op2,ln2,co2,tx2,nm2,k2,r,rfl⟩:=Nd.cases1 r oM
 have hi2:i+(r.len+1)=nds.len:=hi
 obtain⟨htx2,hkx2,hrx2⟩:=htx
 have hrs2:k2.size+r.size+1≤nds.size:=hrs
 have hfr2:s.fresh+200002*((k2.size+r.size+1:Nat):Int)≤200002*nds.size:=hfr
 have hv3:((k2.size+r.size+1:Nat):Int)-nds.size-1≤s.vars:=hv1
 have hkl:=Nd.len_le k2
 have hfr0:=hw.fr
 refine CB (α:=Nat×Nat×Option Addr×Nat) (fun x=>na=some ⟨x.1,x.2.1,none⟩) (fun x=>[⟨x.1,x.2.1+i*6,F9 op2 ln2 co2 tx2 nm2 x.2.2.1 k2.len x.2.2.2⟩]) (fun x=>[fun w f=>AK w f k2 x.2.2.1 x.2.2.2,fun w f=>Az w f na (i+1) r]) (fun w f hM=>let ⟨b,off,ka,kc,h1,h2,h3,h4⟩:=Az.head hM.f0;⟨(b,off,ka,kc),h1,(oE h2),A1.mem ⟨h3,h4,trivial⟩⟩) (fun x=>Af.mem ⟨AK.mono,Az.mono,trivial⟩) ?_
 rintro⟨eb,eo,ka,kc⟩ rfl
 refine go AS 26 [100,0,0,1] (And.intro oM<|y2<|fun b4=>y<|fun b5=>y<|fun _=>AZ 27 rfl rfl (fun h2=>?_) (fun h2=>?_))
 refine go AS 5 [1] (y<|fun _=>Xa rfl rfl (eC fO rfl rfl) (fun _ h=>h) (fun w f hM=>Wp w f hM.vl A hA s hM.res hM.mz hw hM.f5 op2 ln2 co2 nm2 tx2 k2 ka kc oM htx2 hkx2 hM.f0 oM hv2) (fun _=>Au.stab) (fun _=>trivial) (fun er w2 f2 he hE hH=>Mw hn rfl rfl rfl rfl (FY (hti.trans (DS (SQ h2 he)))) hE (hH _ ZA) (hH _ V7) (hH _ Vy)) ?_)
 rintro s5 ⟨hda,hw5,hfr5,hvv5,hvw5⟩
 dsimp only at hda hw5 hfr5 hvv5 hvw5 ⊢
 exact go AS 11 [] (And.intro ⟨oM,oM⟩<|fun _=>Eb ((i+1,r,out,txs,ta,tc,oa,oc,e,ea,s5)) (show r.len<r.len+1 from Nat.lt_succ_self _) ⟨show i+1+r.len=_ by omega,hti.trans (TV (Wd h2 hda)),show out.length≤i+1 by omega,htyb,heB,hwt2.2,hrx2,hw5,show r.size≤_ by omega,show s5.fresh+200002*(r.size:Int)≤_ by omega,show (r.size:Int)-nds.size-1≤s5.vars by omega,show s5.vars≤0 by omega⟩ lE (fun w f hM=>⟨_,hM.less (sD (sD (sK (sK (sK sZ))))) sR nE (mR [1,3,4,5])⟩))
 refine go AS 7 [] (fun _=>AZ 32 rfl rfl (fun h3=>?_) (fun h3=>?_))
 refine go AS 2 [] (fun _=>?_)
 have hwk:k2.wfm 2:=by rcases hwt2.1 with h9|⟨h9,h8⟩|⟨h9,h8⟩ <;> first|exact h8|(exfalso;have:=beq_iff_eq.1 h3;omega)
 obtain⟨op3,ln3,co3,tx3,nm3,k3,r3,hkk⟩:=CK hwk dC
 have hwk2:r3.wfm 3:=by have h9:=hwk;rw[hkk] at h9;exact h9
 obtain⟨op4,ln4,co4,tx4,nm4,k4,r4,rfl⟩:=CK hwk2 dC
 rw[WC] at hwk2
 have hks2:(Nd.cons op4 ln4 co4 tx4 nm4 k4 r4).size=k4.size+r4.size+1:=rfl
 have hkl3:(Nd.cons op4 ln4 co4 tx4 nm4 k4 r4).len=r4.len+1:=rfl
 have hkx3:tx3.length≤100000∧k3.txb:=by have h9:=hkx2;rw[hkk] at h9;exact⟨h9.1,h9.2.1⟩
 have hks:k2.size=k3.size+(Nd.cons op4 ln4 co4 tx4 nm4 k4 r4).size+1:=by rw[hkk];rfl
 have hkl2:k2.len=(Nd.cons op4 ln4 co4 tx4 nm4 k4 r4).len+1:=by rw[hkk];rfl
 refine B4 (fun w f=>Az w f ka 0 (.cons op3 ln3 co3 tx3 nm3 k3 (Nd.cons op4 ln4 co4 tx4 nm4 k4 r4))) (fun w f hM=>by rw[← hkk];exact AK.at hM.f0) Az.mono<|CB (α:=Nat×Nat×Option Addr×Nat) (fun x=>ka=some ⟨x.1,x.2.1,none⟩) (fun x=>[⟨x.1,x.2.1+0*6,F9 op3 ln3 co3 tx3 nm3 x.2.2.1 k3.len x.2.2.2⟩]) (fun x=>[fun w f=>AK w f k3 x.2.2.1 x.2.2.2,fun w f=>Az w f ka 1 (Nd.cons op4 ln4 co4 tx4 nm4 k4 r4)]) (fun w f hM=>let ⟨b,off,ka,kc,h1,h2,h3,h4⟩:=Az.head hM.f0;⟨(b,off,ka,kc),h1,(oE h2),A1.mem ⟨h3,h4,trivial⟩⟩) (fun x=>Af.mem ⟨AK.mono,Az.mono,trivial⟩) ?_
 rintro⟨eb3,eo3,ka3,kc3⟩ rfl
 refine CB (α:=Nat×Nat×Option Addr×Nat) (fun x=>(some (⟨eb3,eo3,none⟩:Addr))=some ⟨x.1,x.2.1,none⟩) (fun x=>[⟨x.1,x.2.1+1*6,F9 op4 ln4 co4 tx4 nm4 x.2.2.1 k4.len x.2.2.2⟩]) (fun x=>[fun w f=>AK w f k4 x.2.2.1 x.2.2.2,fun w f=>Az w f (some (⟨eb3,eo3,none⟩:Addr)) 2 r4]) (fun w f hM=>let ⟨b,off,ka,kc,h1,h2,h3,h4⟩:=Az.head hM.f1;⟨(b,off,ka,kc),h1,(oE h2),A1.mem ⟨h3,h4,trivial⟩⟩) (fun x=>Af.mem ⟨AK.mono,Az.mono,trivial⟩) ?_
 rintro⟨eb4,eo4,ka4,kc4⟩ h44
 obtain⟨rfl,rfl⟩:eb3=eb4∧eo3=eo4:=by cases h44;exact⟨rfl,rfl⟩
 refine Ww [2,3,4] (fun w=>AQ w A.cb [.pointer (some ⟨A.sb,0,none⟩),.map (some A.km),.map (some A.dm),.map (some A.rm),.int .i64 s.vars] 64∧Ci CE w A.rm (s.roots.map fun k=>(k,.bool true))) (fun w f h _=>⟨h.blk,h.roots⟩) [0,1,2,3,4] Ap (rd [0,1,2,3,4,5,6,7,8,9] (.br 10 .fin .fin)) rfl kR kR kR rfl Ff<|AA AS 3 [] (fun _=>HN rfl rfl rfl (fun w hK=>Al rfl eM hK.2.2.1 rfl)<|AA AS 2 [1] (y<|fun _=>HN rfl rfl rfl (fun w hK=>Ns (K:=CE) (a:=tx2) rfl rfl UI H7 aZ hK.2.2.2 hw.dr (R3 s.roots))<|AA AS 3 [1] (y<|fun _=>Ag rfl ?_ Ai)))
 refine Xa (α:=Unit) (val:=fun _=>.tuple #[]) (q:=fun _=>(!s.roots.contains tx2)=true) (I':=fun _=>Au 64 130 A s) (F':=fun _=>[]) (pe:=fun er=>(!s.roots.contains tx2)=false∧er=(ln2,co2,11)) (M:=fun _=>False) (T:=47) rfl rfl (eC ES rfl rfl) (fun _ h=>h.elim) (fun w f hM=>(C0 w f hM.vl (!s.roots.contains tx2) ln2 co2).mono (fun _ _ ⟨x,f2,h1,h2,h3,h4⟩=>⟨x,f2,h1,h2,h3.mono (fun _ h=>h.elim),(hM.call0 h3).res,h4⟩) fun _ _ h=>h) (fun _=>Au.stab) (fun _=>trivial) (fun er w2 f2 he hE hH=>Mw hn rfl rfl rfl rfl (FY (hti.trans (DS (by obtain⟨h9,rfl⟩:=he;rw[hkk];exact SN h3 (Gn h9))))) hE (hH _ ZA) (hH _ V7) (hH _ Vy)) ?_
 rintro⟨⟩ hnd
 replace hnd:s.roots.contains tx2=false:=FL hnd
 refine go AS 1 [] (fun _=>Bh [0,1,2,3,4] (fun w f h _=>⟨h.blk,h.roots⟩) rfl (fun _ h=>h)<|B3<|go AS 2 [] (fun _=>Ww [2,3,4] (fun w=>AQ w A.cb [.pointer (some ⟨A.sb,0,none⟩),.map (some A.km),.map (some A.dm),.map (some A.rm),.int .i64 s.vars] 64) (fun w f h _=>h.blk) [0,1,2,3,4] Ap (rd [0,1,2,3,4,5] (.br 6 .fin .fin)) rfl kR kR kR rfl Ff<|AA AS 3 [] (fun _=>HN rfl rfl rfl (fun w hK=>Al rfl eM hK.2.2 rfl)<|AA AS 2 [1] (y<|fun _=>Ag rfl ?_ Ai))))
 refine nW (a:=tx2) hA hw rfl rfl rfl rfl UI H7 hnd ?_
 have hwr:=hw.addRoot hnd
 refine go AS 1 [] (fun _=>Bh [0,1,2,3,4] (fun w f h _=>h.blk) rfl (fun _ h=>h)<|B3<|go AS 8 [1,101,0] (y<|And.intro oM<|y2<|fun _=>Xa (α:=T1×Option Addr×Nat) (val:=fun x=>tV x.1 x.2.1 x.2.2) (q:=fun x=>Dd s.datas [] op3 ln3 co3 tx3 k3=.ok x.1∧x.1.bnd) (I':=fun _=>Au 64 130 A ({s with roots:=tx2::s.roots}:CS)) (F':=fun x=>[fun w f=>Ah w f x.1.kids x.2.1 x.2.2]) (pe:=fun er=>Dd s.datas [] op3 ln3 co3 tx3 k3=.error er) (M:=fun _=>False) (T:=47) rfl rfl (eC Nz rfl rfl) (fun _ h=>h.elim) (fun w f hM=>(KQ (k3.size+1) w f hM.vl A ({s with roots:=tx2::s.roots}:CS) hM.res hwr hM.f10 op3 ln3 co3 nm3 tx3 k3 ka3 kc3 (.map none) [] (Nat.lt_succ_self _) oM hkx3.1 hkx3.2 (.inl ⟨rfl,rfl⟩) hM.f2).mono (fun _ _ ⟨x,f2,h1,h2,h3,h4⟩=>⟨x,f2,h1,h2,h3.mono (fun _ h=>h.elim),(hM.call0 h3).res,h4⟩) fun _ _ h=>h) (fun _=>Au.stab) (fun _=>⟨Ah.mono,trivial⟩) (fun er w2 f2 he hE hH=>Mw hn rfl rfl rfl rfl (FY (hti.trans (DS (by rw[hkk];exact Uv h3 hnd he)))) hE (hH _ ZA) (hH _ V7) (hH _ Vy)) ?_))
 rintro⟨q5,qa,qc⟩ ⟨hp5,hqb⟩
 dsimp only at hp5 hqb ⊢
 refine go AS 5 [0] (fun b6=>y<|fun _=>Ww [2,3,4] (fun _=>True) Fu [0,1,2,3,4,5] Ap (rd [0,1,2,3,4,5,6,7,9,10] (.br 8 (.br 11 .fin .fin) .fin)) rfl kR kR kR rfl Ff<|AA AS 10 [0,2,100,0,2] (y<|y<|And.intro oM<|y2<|y<|fun _=>Ag rfl ?_ Ai))
 refine Xa rfl rfl (eC CX rfl rfl) (fun _ h=>h) (fun w f hM=>Jz (k4.size+1) w f hM.vl A hA ({s with roots:=tx2::s.roots}:CS) hM.res hM.mz hwr op4 ln4 co4 nm4 tx4 k4 ka4 kc4 e ea (Nat.lt_succ_self _) oM hwk2 hM.f1 heB hM.f10 (by first|omega|(dsimp only;omega))) (fun _=>Au.stab) (fun _=>⟨Ah.mono,trivial⟩) (fun er w2 f2 he hE hH=>Mw hn rfl rfl rfl rfl (FY (hti.trans (DS (by rw[hkk];exact Ur h3 hnd hp5 he)))) hE (hH _ pK) (hH _ ZA) (hH _ V7)) ?_
 rintro⟨⟨t6,t6a,t6c⟩,s6⟩ ⟨hp6,htb6,hw6,hf6⟩
 dsimp only at hp6 htb6 hw6 hf6 ⊢
 have hfm6:=GM JQ _ hp6
 have hvv6:s6.vars=s.vars:=hfm6.2.2.2
 refine go AS 1 [] (fun _=>Ax [0,1,2,3,4,5] rfl<|Ag rfl ?_ Ai)
 refine Xa rfl rfl (eC Gp rfl rfl) (fun _ h=>h) (fun w f hM=>Dk w f hM.vl A hA s6 hM.res hM.mz hw6 q5 t6 qa qc t6a t6c hqb htb6 hM.f1 hM.f0 ln2 co2) (fun _=>Au.stab) (fun _=>trivial) (fun er w2 f2 he hE hH=>Mw hn rfl rfl rfl rfl (FY (hti.trans (DS (by rw[hkk];exact T6 h3 hnd hp5 hp6 he)))) hE (hH _ pK) (hH _ ZA) (hH _ V7)) ?_
 rintro s7 ⟨hh7,hw7,hf7⟩
 have hvv7:s7.vars=s.vars:=(JQ.has hh7).2.2.2.trans hvv6
 refine go AS 1 [] (fun _=>Ax [0,1,2,3,4,5] rfl<|B3<|go AS 5 [0] (y<|fun b7=>fun _=>Dl 0 rfl rfl<|B8 (α:=Option Addr×Nat) rfl rfl (eC B5 rfl rfl) (fun w f hM=>VH w f hM.vl Dr q5 b7 (Ds (l:=[(q5,qa,qc)]) ⟨hM.f1,trivial⟩ hM.b0)) (fun _=>⟨Ah.mono,trivial⟩) ?_))
 rintro⟨ua,uc⟩ -
 refine go AS 11 [1,2,1,2] (y<|y<|y<|y<|fun _=>?_)
 have hub:(T1.con Dr q5.one).bnd:=D0 dC (by rw[T1.one,T1.len_cons];simp only[Ty.len];omega) (GK hqb)
 refine Xa rfl rfl (eC IH rfl rfl) (fun _ h=>h) (fun w f hM=>Ew w f hM.vl A hA s7 hM.res hM.mz hw7 e ea heB hM.f12 tx2 (T1.con Dr q5.one) ua uc hub hM.f0 false ln2 co2) (fun _=>Au.stab) (fun _=>⟨AN.mono,trivial⟩) (fun er w2 f2 he hE hH=>Mw hn rfl rfl rfl rfl (by cases he) hE (hH _ pK) (hH _ ZA) (hH _ V7)) ?_
 rintro⟨e7,ea7⟩ ⟨he7,heB7⟩
 dsimp only at he7 heB7 ⊢
 have hee:e7=⟨tx2,.con Dr q5.one,[]⟩::e:=by cases he7;rfl
 subst hee
 refine go AS 11 [5,2] (y<|y<|fun b8=>fun _=>DH 1 0 rfl rfl VB rfl rfl rfl rfl rfl rfl rfl rfl (fun _ _=>rfl) oM oM fun oa2 oc2=>go AS 7 [6,2] (y<|y<|fun b9=>fun _=>DH 0 0 rfl rfl Dq rfl rfl rfl rfl rfl rfl rfl rfl (fun _ _=>rfl) oM oM fun ta2 GB=>go AS 8 [] (And.intro ⟨oM,oM⟩<|fun _=>?_)))
 exact Eb ((i+1,r,(out++[(tx2,(T1.con Dr q5.one))]),txs++tC (T1.con Dr q5.one) ua uc,ta2,GB,oa2,oc2,(⟨tx2,.con Dr q5.one,[]⟩::e),ea7,s7)) (show r.len<r.len+1 from Nat.lt_succ_self _) ⟨show i+1+r.len=_ by omega,hti.trans (IP (by rw[hkk];exact Wa h3 hnd hp5 hp6 hh7)),show (out++[(tx2,(T1.con Dr q5.one))]).length≤i+1 by rw[List.length_append];simp;omega,show (FJ (out++[(tx2,(T1.con Dr q5.one))])).bnd by rw[Eu];exact Ty.bnd_snoc htyb hub,heB7,hwt2.2,hrx2,hw7,show r.size≤_ by omega,show s7.fresh+200002*(r.size:Int)≤_ by omega,show (r.size:Int)-nds.size-1≤s7.vars by omega,show s7.vars≤0 by omega⟩ (dU rfl rfl rfl rfl rfl (Eq.trans (b:=some (Value.slice ta2 (out.length+1) GB)) rfl (by dsimp only;rw[List.length_append];rfl)) rfl rfl rfl) (fun w f hM=>⟨_,by have hM9:=(hM.more (B':=[]) (F':=[fun w f=>Bl w f (FJ (out++[(tx2,(T1.con Dr q5.one))])) (txs++tC (T1.con Dr q5.one) ua uc)]) nE (A1.mem ⟨by rw[Eu];exact Bl.snoc hM.f1 hM.f12,trivial⟩) (Af.mem ⟨Bl.mono,trivial⟩)).less (sD (sD (sD (sD (sD (sK (sK (sK sZ)))))))) sR (B':=[]) nE (F':=[fun w f=>Az w f (some ⟨eb,eo,none⟩) (i+1) r,fun w f=>Bl w f (FJ (out++[(tx2,(T1.con Dr q5.one))])) (txs++tC (T1.con Dr q5.one) ua uc),fun w f=>AN w f (⟨tx2,.con Dr q5.one,[]⟩::e) ea7,fun w f=>FE w f]) (mR [11,0,1,15]);dsimp only;rw[show (out++[(tx2,(T1.con Dr q5.one))]).length=out.length+1 by rw[List.length_append];rfl,show bC (SI (out++[(tx2,(T1.con Dr q5.one))]))=bC (SI out)++[S tx2,S []] by rw[SI,List.map_append,SP.bC_app];rfl];exact hM9⟩)
 refine go AS 7 [] (fun _=>AZ 80 rfl rfl (fun h4=>?_) (fun h4=>?_))
 refine go AS 2 [] (fun _=>?_)
 have hwk:k2.wfm 3:=by rcases hwt2.1 with h9|⟨h9,h8⟩|⟨h9,h8⟩ <;> first|exact h8|(exfalso;have:=beq_iff_eq.1 h4;omega)
 obtain⟨op3,ln3,co3,tx3,nm3,k3,r3,hkk⟩:=CK hwk dC
 have hwk1:GY op3 k3:=by have h9:=hwk;rw[hkk] at h9;exact h9
 have hks:k2.size=k3.size+r3.size+1:=by rw[hkk];rfl
 have hkl2:k2.len=r3.len+1:=by rw[hkk];rfl
 refine B4 (fun w f=>Az w f ka 0 (.cons op3 ln3 co3 tx3 nm3 k3 r3)) (fun w f hM=>by rw[← hkk];exact AK.at hM.f0) Az.mono<|CB (α:=Nat×Nat×Option Addr×Nat) (fun x=>ka=some ⟨x.1,x.2.1,none⟩) (fun x=>[⟨x.1,x.2.1+0*6,F9 op3 ln3 co3 tx3 nm3 x.2.2.1 k3.len x.2.2.2⟩]) (fun x=>[fun w f=>AK w f k3 x.2.2.1 x.2.2.2,fun w f=>Az w f ka 1 r3]) (fun w f hM=>let ⟨b,off,ka,kc,h1,h2,h3,h4⟩:=Az.head hM.f0;⟨(b,off,ka,kc),h1,(oE h2),A1.mem ⟨h3,h4,trivial⟩⟩) (fun x=>Af.mem ⟨AK.mono,Az.mono,trivial⟩) ?_
 rintro⟨eb3,eo3,ka3,kc3⟩ rfl
 refine go AS 7 [1,100,0] (y<|And.intro oM<|y2<|fun _=>Xa rfl rfl (eC CX rfl rfl) (fun _ h=>h) (fun w f hM=>Jz (k3.size+1) w f hM.vl A hA s hM.res hM.mz hw op3 ln3 co3 nm3 tx3 k3 ka3 kc3 e ea (Nat.lt_succ_self _) oM hwk1 hM.f0 heB hM.f7 (by first|omega|(dsimp only;omega))) (fun _=>Au.stab) (fun _=>⟨Ah.mono,trivial⟩) (fun er w2 f2 he hE hH=>Mw hn rfl rfl rfl rfl (FY (hti.trans (DS (by rw[hkk];exact Wl h4 he)))) hE (hH _ ZA) (hH _ V7) (hH _ Vy)) ?_)
 rintro⟨⟨t6,t6a,t6c⟩,s6⟩ ⟨hp6,htb6,hw6,hf6⟩
 dsimp only at hp6 htb6 hw6 hf6 ⊢
 have hfm6:=GM JQ _ hp6
 have hvv6:s6.vars=s.vars:=hfm6.2.2.2
 refine go AS 3 [0] (y<|fun _=>Ww [2,3,4] (fun _=>True) Fu [0,1,2,3,4] Ap (rd [0,1,2,3,4,5,6,7,8,10,11] (.br 9 (.br 12 (.rd 13 .fin) .fin) .fin)) rfl kR kR kR rfl Ff<|AA AS 11 [1,0,1,100,0,1] (y<|y<|y<|And.intro oM<|y2<|y<|fun _=>Ag rfl ?_ Ai))
 refine B8 rfl rfl (eC Th rfl rfl) (fun w f hM=>K5 (k3.size+1) w f hM.vl op3 ln3 co3 nm3 tx3 k3 ka3 kc3 (Nat.lt_succ_self _) oM hM.f1) (fun x=>trivial) ?_
 rintro⟨⟩ -
 refine go AS 1 [] (fun _=>Ax [0,1,2,3,4] rfl<|Ag rfl ?_ Ai)
 refine Xa rfl rfl (eC IH rfl rfl) (fun _ h=>h) (fun w f hM=>Ew w f hM.vl A hA s6 hM.res hM.mz hw6 e ea heB hM.f8 tx2 t6 t6a t6c htb6 hM.f0 (C2 (k3.size+1) op3 k3) ln2 co2) (fun _=>Au.stab) (fun _=>⟨AN.mono,trivial⟩) (fun er w2 f2 he hE hH=>Mw hn rfl rfl rfl rfl (FY (hti.trans (DS (by rw[hkk];exact W9 h4 hp6 he)))) hE (hH _ ZA) (hH _ V7) (hH _ Vy)) ?_
 rintro⟨e7,ea7⟩ ⟨he7,heB7⟩
 dsimp only at he7 heB7 ⊢
 refine go AS 1 [] (fun _=>Ax [0,1,2,3,4] rfl<|AA AS 1 [] (fun _=>B3<|go AS 9 [4,1] (y<|y<|fun b10=>fun _=>DH 1 0 rfl rfl VB rfl rfl rfl rfl rfl rfl rfl rfl (fun _ _=>rfl) oM oM fun oa2 oc2=>go AS 7 [5,1] (y<|y<|fun b11=>fun _=>DH 0 0 rfl rfl Dq rfl rfl rfl rfl rfl rfl rfl rfl (fun _ _=>rfl) oM oM fun ta2 GB=>go AS 8 [] (And.intro ⟨oM,oM⟩<|fun _=>?_)))))
 exact Eb ((i+1,r,(out++[(tx2,t6)]),txs++tC t6 t6a t6c,ta2,GB,oa2,oc2,e7,ea7,s6)) (show r.len<r.len+1 from Nat.lt_succ_self _) ⟨show i+1+r.len=_ by omega,hti.trans (IP (by rw[hkk];exact Xj h4 hp6 he7)),show (out++[(tx2,t6)]).length≤i+1 by rw[List.length_append];simp;omega,show (FJ (out++[(tx2,t6)])).bnd by rw[Eu];exact Ty.bnd_snoc htyb htb6,heB7,hwt2.2,hrx2,hw6,show r.size≤_ by omega,show s6.fresh+200002*(r.size:Int)≤_ by omega,show (r.size:Int)-nds.size-1≤s6.vars by omega,show s6.vars≤0 by omega⟩ (dU rfl rfl rfl rfl rfl (Eq.trans (b:=some (Value.slice ta2 (out.length+1) GB)) rfl (by dsimp only;rw[List.length_append];rfl)) rfl rfl rfl) (fun w f hM=>⟨_,by have hM9:=(hM.more (B':=[]) (F':=[fun w f=>Bl w f (FJ (out++[(tx2,t6)])) (txs++tC t6 t6a t6c)]) nE (A1.mem ⟨by rw[Eu];exact Bl.snoc hM.f1 hM.f8,trivial⟩) (Af.mem ⟨Bl.mono,trivial⟩)).less (sD (sD (sD (sD (sK (sK (sK sZ))))))) sR (B':=[]) nE (F':=[fun w f=>Az w f (some ⟨eb,eo,none⟩) (i+1) r,fun w f=>Bl w f (FJ (out++[(tx2,t6)])) (txs++tC t6 t6a t6c),fun w f=>AN w f e7 ea7,fun w f=>FE w f]) (mR [7,0,1,11]);dsimp only;rw[show (out++[(tx2,t6)]).length=out.length+1 by rw[List.length_append];rfl,show bC (SI (out++[(tx2,t6)]))=bC (SI out)++[S tx2,S []] by rw[SI,List.map_append,SP.bC_app];rfl];exact hM9⟩)
 refine go AS 7 [] (fun _=>AZ 102 rfl rfl (fun h5=>?_) (fun h5=>?_))
 refine go AS 2 [] (fun _=>?_)
 have hwk:k2.wfm 3:=by rcases hwt2.1 with h9|⟨h9,h8⟩|⟨h9,h8⟩ <;> first|exact h8|(exfalso;have:=beq_iff_eq.1 h5;omega)
 obtain⟨op3,ln3,co3,tx3,nm3,k3,r3,rfl⟩:=CK hwk dC
 rw[WC] at hwk
 have hks:(Nd.cons op3 ln3 co3 tx3 nm3 k3 r3).size=k3.size+r3.size+1:=rfl
 refine go AS 4 [1] (y<|fun _=>Xa rfl rfl (eC XB rfl rfl) (fun _ h=>h) (fun w f hM=>RT (k3.size+1) (Jz (k3.size+1)) w f hM.vl A hA s hM.res hM.mz hw op2 ln2 co2 nm2 tx2 op3 ln3 co3 nm3 tx3 k3 r3 ka kc e ea (Nat.lt_succ_self _) oM hwk hM.f0 heB hM.f4 oM) (fun _=>Au.stab) (fun _=>⟨Ah.mono,trivial⟩) (fun er w2 f2 he hE hH=>Mw hn rfl rfl rfl rfl (FY (hti.trans (DS (VJ h5 he)))) hE (hH _ ZA) (hH _ V7) (hH _ Vy)) ?_)
 rintro⟨⟨t6,t6a,t6c⟩,s6⟩ ⟨hp6,htb6,hw6,hf6⟩
 dsimp only at hp6 htb6 hw6 hf6 ⊢
 have hfm6:=Qs JQ (GM JQ _) hp6
 have hvv6:s6.vars=s.vars:=hfm6.2.2.2
 refine go AS 11 [0,1,0,1] (y<|y<|y<|y<|fun _=>Xa rfl rfl (eC IH rfl rfl) (fun _ h=>h) (fun w f hM=>Ew w f hM.vl A hA s6 hM.res hM.mz hw6 e ea heB hM.f5 tx2 t6 t6a t6c htb6 hM.f0 true ln2 co2) (fun _=>Au.stab) (fun _=>⟨AN.mono,trivial⟩) (fun er w2 f2 he hE hH=>Mw hn rfl rfl rfl rfl (FY (hti.trans (DS (WT h5 hp6 he)))) hE (hH _ ZA) (hH _ V7) (hH _ Vy)) ?_)
 rintro⟨e7,ea7⟩ ⟨he7,heB7⟩
 dsimp only at he7 heB7 ⊢
 exact go AS 11 [4,1] (y<|y<|fun b12=>fun _=>DH 1 0 rfl rfl VB rfl rfl rfl rfl rfl rfl rfl rfl (fun _ _=>rfl) oM oM fun oa2 oc2=>go AS 7 [5,1] (y<|y<|fun b13=>fun _=>DH 0 0 rfl rfl Dq rfl rfl rfl rfl rfl rfl rfl rfl (fun _ _=>rfl) oM oM fun ta2 GB=>go AS 8 [] (And.intro ⟨oM,oM⟩<|fun _=>Eb ((i+1,r,(out++[(tx2,t6)]),txs++tC t6 t6a t6c,ta2,GB,oa2,oc2,e7,ea7,s6)) (show r.len<r.len+1 from Nat.lt_succ_self _) ⟨show i+1+r.len=_ by omega,hti.trans (IP (XI h5 hp6 he7)),show (out++[(tx2,t6)]).length≤i+1 by rw[List.length_append];simp;omega,show (FJ (out++[(tx2,t6)])).bnd by rw[Eu];exact Ty.bnd_snoc htyb htb6,heB7,hwt2.2,hrx2,hw6,show r.size≤_ by omega,show s6.fresh+200002*(r.size:Int)≤_ by omega,show (r.size:Int)-nds.size-1≤s6.vars by omega,show s6.vars≤0 by omega⟩ (dU rfl rfl rfl rfl rfl (Eq.trans (b:=some (Value.slice ta2 (out.length+1) GB)) rfl (by dsimp only;rw[List.length_append];rfl)) rfl rfl rfl) (fun w f hM=>⟨_,by have hM9:=(hM.more (B':=[]) (F':=[fun w f=>Bl w f (FJ (out++[(tx2,t6)])) (txs++tC t6 t6a t6c)]) nE (A1.mem ⟨by rw[Eu];exact Bl.snoc hM.f1 hM.f5,trivial⟩) (Af.mem ⟨Bl.mono,trivial⟩)).less (sD (sD (sD (sD (sK (sK (sK sZ))))))) sR (B':=[]) nE (F':=[fun w f=>Az w f (some ⟨eb,eo,none⟩) (i+1) r,fun w f=>Bl w f (FJ (out++[(tx2,t6)])) (txs++tC t6 t6a t6c),fun w f=>AN w f e7 ea7,fun w f=>FE w f]) (mR [4,0,1,8]);dsimp only;rw[show (out++[(tx2,t6)]).length=out.length+1 by rw[List.length_append];rfl,show bC (SI (out++[(tx2,t6)]))=bC (SI out)++[S tx2,S []] by rw[SI,List.map_append,SP.bC_app];rfl];exact hM9⟩))))
 refine go AS 7 [] (fun _=>AZ 116 rfl rfl (fun h6=>?_) (fun h6=>?_))
 refine go AS 2 [] (fun _=>?_)
 have hwk:k2.wfm 3:=by rcases hwt2.1 with h9|⟨h9,h8⟩|⟨h9,h8⟩ <;> first|exact h8|(exfalso;have:=beq_iff_eq.1 h6;omega)
 obtain⟨op3,ln3,co3,tx3,nm3,k3,r3,hkk⟩:=CK hwk dC
 have hwk1:GY op3 k3:=by have h9:=hwk;rw[hkk] at h9;exact h9
 have hks:k2.size=k3.size+r3.size+1:=by rw[hkk];rfl
 have hkl2:k2.len=r3.len+1:=by rw[hkk];rfl
 refine B4 (fun w f=>Az w f ka 0 (.cons op3 ln3 co3 tx3 nm3 k3 r3)) (fun w f hM=>by rw[← hkk];exact AK.at hM.f0) Az.mono<|CB (α:=Nat×Nat×Option Addr×Nat) (fun x=>ka=some ⟨x.1,x.2.1,none⟩) (fun x=>[⟨x.1,x.2.1+0*6,F9 op3 ln3 co3 tx3 nm3 x.2.2.1 k3.len x.2.2.2⟩]) (fun x=>[fun w f=>AK w f k3 x.2.2.1 x.2.2.2,fun w f=>Az w f ka 1 r3]) (fun w f hM=>let ⟨b,off,ka,kc,h1,h2,h3,h4⟩:=Az.head hM.f0;⟨(b,off,ka,kc),h1,(oE h2),A1.mem ⟨h3,h4,trivial⟩⟩) (fun x=>Af.mem ⟨AK.mono,Az.mono,trivial⟩) ?_
 rintro⟨eb3,eo3,ka3,kc3⟩ rfl
 refine go AS 7 [1,100,0] (y<|And.intro oM<|y2<|fun _=>Xa rfl rfl (eC CX rfl rfl) (fun _ h=>h) (fun w f hM=>Jz (k3.size+1) w f hM.vl A hA s hM.res hM.mz hw op3 ln3 co3 nm3 tx3 k3 ka3 kc3 e ea (Nat.lt_succ_self _) oM hwk1 hM.f0 heB hM.f7 (by first|omega|(dsimp only;omega))) (fun _=>Au.stab) (fun _=>⟨Ah.mono,trivial⟩) (fun er w2 f2 he hE hH=>Mw hn rfl rfl rfl rfl (FY (hti.trans (DS (by rw[hkk];exact YH h6 he)))) hE (hH _ ZA) (hH _ V7) (hH _ Vy)) ?_)
 rintro⟨⟨t6,t6a,t6c⟩,s6⟩ ⟨hp6,htb6,hw6,hf6⟩
 dsimp only at hp6 htb6 hw6 hf6 ⊢
 have hfm6:=GM JQ _ hp6
 have hvv6:s6.vars=s.vars:=hfm6.2.2.2
 refine go AS 16 [0,1,4,1] (y<|y<|y<|y<|fun b14=>fun _=>DH 1 0 rfl rfl VB rfl rfl rfl rfl rfl rfl rfl rfl (fun _ _=>rfl) oM oM fun oa2 oc2=>go AS 7 [5,1] (y<|y<|fun b15=>fun _=>DH 0 0 rfl rfl Dq rfl rfl rfl rfl rfl rfl rfl rfl (fun _ _=>rfl) oM oM fun ta2 GB=>go AS 8 [] (And.intro ⟨oM,oM⟩<|fun _=>?_)))
 exact Eb ((i+1,r,(out++[(([]:List UInt8),t6)]),txs++tC t6 t6a t6c,ta2,GB,oa2,oc2,e,ea,s6)) (show r.len<r.len+1 from Nat.lt_succ_self _) ⟨show i+1+r.len=_ by omega,hti.trans (IP (by rw[hkk];exact bT h6 hp6)),show (out++[(([]:List UInt8),t6)]).length≤i+1 by rw[List.length_append];simp;omega,show (FJ (out++[(([]:List UInt8),t6)])).bnd by rw[Eu];exact Ty.bnd_snoc htyb htb6,heB,hwt2.2,hrx2,hw6,show r.size≤_ by omega,show s6.fresh+200002*(r.size:Int)≤_ by omega,show (r.size:Int)-nds.size-1≤s6.vars by omega,show s6.vars≤0 by omega⟩ (dU rfl rfl rfl rfl rfl (Eq.trans (b:=some (Value.slice ta2 (out.length+1) GB)) rfl (by dsimp only;rw[List.length_append];rfl)) rfl rfl rfl) (fun w f hM=>⟨_,by have hM9:=(hM.more (B':=[]) (F':=[fun w f=>Bl w f (FJ (out++[(([]:List UInt8),t6)])) (txs++tC t6 t6a t6c)]) nE (A1.mem ⟨by rw[Eu];exact Bl.snoc hM.f0 hM.f7,trivial⟩) (Af.mem ⟨Bl.mono,trivial⟩)).less (sD (sD (sD (sD (sK (sK (sK sZ))))))) sR (B':=[]) nE (F':=[fun w f=>Az w f (some ⟨eb,eo,none⟩) (i+1) r,fun w f=>Bl w f (FJ (out++[(([]:List UInt8),t6)])) (txs++tC t6 t6a t6c),fun w f=>AN w f e ea,fun w f=>FE w f]) (mR [6,0,9,10]);dsimp only;rw[show (out++[(([]:List UInt8),t6)]).length=out.length+1 by rw[List.length_append];rfl,show bC (SI (out++[(([]:List UInt8),t6)]))=bC (SI out)++[S ([]:List UInt8),S []] by rw[SI,List.map_append,SP.bC_app];rfl];exact hM9⟩)
 exfalso
 have gh2:=beq_eq_false_iff_ne.1 h2
 have gh3:=beq_eq_false_iff_ne.1 h3
 have gh4:=beq_eq_false_iff_ne.1 h4
 have gh5:=beq_eq_false_iff_ne.1 h5
 have gh6:=beq_eq_false_iff_ne.1 h6
 rcases hwt2.1 with h9|⟨h9,h8⟩|⟨h9,h8⟩ <;> omega
 refine go AS 3 [] (fun _=>Hc<|go AS 4 [] (fun _=>?_))
 obtain rfl:r=.nil:=Nd.len0 (by have:=of_decide_eq_false h1;omega)
 have hti2:CY VO Mv nds []=.ok (out,s):=hti
 have hol2:out.length≤200000:=oM
 refine QH (fun w f=>Ah w f (FJ out) ta tc) Ah.mono (fun w f hM=>HL hM hM.f1)<|go AS 7 [] (fun _=>?_)
 refine H9 (α:=List (List UInt8×List UInt8)×List (List UInt8×T1)) (fun x=>x.2.length) (fun x=>x.1.length+x.2.length=out.length∧(Cq nds=match II s x.2 with|.error e=>.error e|.ok l=>.ok (x.1++l))∧(FJ x.2).bnd) (fun x=>(E7 2 (.pointer (some ⟨b1,0,none⟩)) 3 (.pointer (some ⟨b2,0,none⟩)) 4 (.pointer (some ⟨b3,0,none⟩)) 5 (.pointer (some ⟨A.cb,0,none⟩)) 137 (.slice ta out.length tc) 138 (.int .i64 (out.length:Int)) 139 (.int .i64 (x.1.length:Int)))) (fun x=>⟨fun _=>False,BB A,Au 64 130 A s,w,f⟩) (fun x=>[⟨b3,[.int .i64 0],26,true⟩,⟨b2,[.int .i64 0,.int .i64 0],25,true⟩,⟨b1,[.slice oa out.length oc],30,true⟩]) (fun x=>[⟨36,2,oa,oc,out.length,bC (Q7 x.1 x.2)⟩]) (fun x=>[]) (fun x=>[fun w f=>AW w f ta x.1.length (FJ x.2)]) ([],out) ⟨by simp,(fI hti2).trans Tt,htyb⟩ lE (fun w f hM=>hM.more (B':=[]) (F':=[fun w f=>AW w f ta 0 (FJ out)]) nE (A1.mem ⟨Ah.at hM.f0,trivial⟩) (Af.mem ⟨AW.mono,trivial⟩) |>.less (sK (sK (sK sZ))) sR nE (mR [0])) ?_
 rintro⟨d,r⟩ ⟨hdl,hfi,htyr⟩
 dsimp only at hdl hfi htyr ⊢
 refine go AS 6 [] (fun _=>AZ 140 rfl rfl (fun h7=>?_) (fun h7=>?_))
 refine go AS 6 [] (fun _=>?_)
 have hjl:d.length<out.length:=by have:=of_decide_eq_true h7;omega
 obtain⟨⟨nm2,t2⟩,r2,rfl⟩:∃p q,r=p::q:=by cases r with|nil=>simp only[List.length_nil] at hdl;omega|cons p q=>exact⟨p,q,rfl⟩
 have htb2:t2.bnd∧(FJ r2).bnd:=T1.bnd_cons.1 htyr
 refine Ky (p:=∃ob,oa=some ⟨ob,0,none⟩) (fun w f hM=>by rcases (hM.row _ (.head _)).2 with ⟨_,_,h9⟩|⟨ob,_,h9,_⟩;(dsimp only at h9;omega);exact⟨ob,h9⟩) fun hob=>?_
 obtain⟨ob,rfl⟩:=hob
 refine CB (α:=Nat×Nat×Option Addr×Nat) (fun x=>ta=some ⟨x.1,x.2.1,none⟩) (fun x=>[⟨x.1,x.2.1+d.length*4,tC t2 x.2.2.1 x.2.2.2⟩]) (fun x=>[fun w f=>Ah w f t2.kids x.2.2.1 x.2.2.2,fun w f=>AW w f ta (d.length+1) (FJ r2)]) (fun w f hM=>let ⟨b,off,ka,kc,h1,h2,h3,h4⟩:=AW.head (show AW w f ta d.length (t2.cons (FJ r2)) from hM.f0);⟨(b,off,ka,kc),h1,(oE h2),A1.mem ⟨h3,h4,trivial⟩⟩) (fun x=>Af.mem ⟨Ah.mono,AW.mono,trivial⟩) ?_
 rintro⟨ab2,ao2,ka2,kc2⟩ rfl
 refine go AS 9 [100,0,0] (And.intro oM<|y2<|fun b16=>y<|fun _=>Ww [2,3,4] (fun _=>True) Fu [0,1,2,3] Ap (rd [0,1,2,3,4] (.br 5 (.br 6 (.rd 7 (.rd 8 (.br 9 .fin .fin))) .fin) .fin)) rfl kR kR kR rfl Ff<|AA AS 5 [3,0] (y<|y<|fun _=>Ag rfl ?_ Ai))
 refine Xa rfl rfl (eC FQ rfl rfl) (fun _ h=>h) (fun w f hM=>Cz w f hM.vl A hA s hM.res hM.mz hw t2 ka2 kc2 htb2.1 hM.f0 0 0) (fun _=>Au.stab) (fun _=>⟨Ah.mono,trivial⟩) (fun er w2 f2 he hE hH=>Mw hn rfl rfl rfl rfl (by rw[hfi,Ys he]) hE (hH _ V7) (hH _ Vy) (hH _ lC)) ?_
 rintro⟨u2,ua2,uc2⟩ ⟨hfu,hub2,hus2⟩
 dsimp only at hfu hub2 hus2 ⊢
 refine go AS 1 [] (fun _=>Ax [0,1,2,3] rfl<|Ag rfl ?_ Ai)
 refine B8 rfl rfl (eC iK rfl rfl) (fun w f hM=>Wv w f hM.vl u2 ua2 uc2 hus2 hub2 hM.f0) (fun x=>trivial) ?_
 rintro⟨⟩ -
 refine go AS 1 [] (fun _=>Ax [0,1,2,3] rfl<|AA AS 2 [] (And.intro oM<|fun _=>Ag rfl ?_ Ai))
 exact qH 0 (bC (Q7 (d++[(nm2,OS u2)]) r2)) rfl rfl rfl rfl Hx rfl rfl rfl (by simp only[Nat.zero_add,List.length_cons,List.length_nil,Int.toNat_natCast];omega) (by rw[Nat.zero_add,Int.toNat_natCast];exact Wt) rfl<|go AS 1 [] (fun _=>Ax [0,1,2,3] rfl<|B3<|go AS 6 [] (And.intro ⟨oM,oM⟩<|fun _=>Eb ((d++[(nm2,OS u2)],r2)) (show r2.length<((nm2,t2)::r2).length from Nat.lt_succ_self _) ⟨show (d++[(nm2,OS u2)]).length+r2.length=_ by simp only[List.length_append,List.length_cons,List.length_nil] at hdl ⊢;omega,hfi.trans (VY hfu),htb2.2⟩ (tO rfl rfl rfl rfl rfl rfl (Eq.trans (b:=some (Value.int .i64 ((d.length:Int)+1))) rfl (by dsimp only;simp))) (fun w f hM=>⟨_,by have hM9:=hM.less (sD (sK (sK (sK sZ)))) sR (B':=[]) nE (F':=[fun w f=>AW w f (some ⟨ab2,ao2,none⟩) (d.length+1) (FJ r2)]) (mR [2]);dsimp only;rw[List.length_append];exact hM9⟩)))
 refine go AS 3 [] (fun _=>Hc<|go AS 3 [] (fun _=>?_))
 obtain rfl:r=[]:=by have h9:=of_decide_eq_false h7;cases r with|nil=>rfl|cons p q=>simp only[List.length_cons] at hdl;omega
 refine go AS 9 [2,2,1,0] (y<|y<|y<|y<|fun _=>fun w9 f9 hM=>?_)
 obtain⟨f8,hM8,hB8⟩:=gF (l:=Q7 d []) (by have hM9:=hM;rw[show out.length=(Q7 d []).length by rw[Q7,List.length_append];simp only[List.map_nil,List.length_nil];exact hdl.symm] at hM9;exact hM9)
 have hinf:Cq nds=.ok d:=by rw[hfi];show (Except.ok (d++[]):RI _)=_;rw[List.append_nil]
 have hdd:Q7 d []=d:=List.append_nil d
 rw[hdd] at hB8
 exact fun tmps ht=>mM rfl rfl rfl rfl hinf hM8.exm hB8 (by have h9:=hM8.blk _ Vy;rw[hdd] at h9;exact h9) (hM8.blk _ lC) (hM8.blk _ qG) tmps ht
end Go.Proofs.YthofplgbhecdcaaGreatDoor
namespace Go.SP
open Go.SW Go.RowKit
def Fo.sz:Fo→Nat
 |.nil=>0
 |.cons _ k r=>k.sz+r.sz+1
structure NW(k:Fo)(a:N):Prop where
 tx:a.tx.length≤100000
 kt:a.kids.txb
 sz:a.kids.size+2≤2*(k.sz+1)
def EW(f:AT→Fo→R N):Prop:=∀t k a,t.ok→k.ok→f t k=.ok a→NW k a
theorem JL{f:AT→Fo→R N}(hf:EW f):∀(fo:Fo)(x:Nd),fo.ok→Bw f fo=.ok x→x.txb∧x.size+x.len≤2*fo.sz∧x.len=fo.len
 |.nil,x,_,h=>by cases h;exact⟨trivial,Nat.le_refl _,rfl⟩
 |.cons t k r,x,hk,h=>by
   unfold Bw at h
   split at h
   · cases h
   rename_i a h1
   split at h
   · cases h
   rename_i b h2
   cases h
   have ha:=hf t k a hk.1 hk.2.1 h1
   obtain⟨e1,e2,e3⟩:=JL hf r b hk.2.2.2 h2
   refine⟨⟨ha.tx,ha.kt,e1⟩,?_,by simp only[N.cons,Nd.len,Fo.len,e3]⟩
   have:=ha.sz
   simp only[N.cons,Nd.size,Nd.len,Fo.sz]
   omega
theorem dL{t:AT}{k:Fo}{op ln co nm:Int}{tx:List UInt8}(h:tx.length≤100000):NW k ⟨op,ln,co,tx,nm,.nil⟩:=⟨h,trivial,by simp only[Nd.size];omega⟩
theorem nT{f:AT→Fo→R N}(hf:EW f){h:AT}{hk l:Fo}(hl:(Fo.cons h hk l).ok){op ln co nm:Int}{tx:List UInt8}(ht:tx.length≤100000){ks:Nd}(he:Bw f l=.ok ks):NW (.cons h hk l) ⟨op,ln,co,tx,nm,ks⟩:=by
 obtain⟨e1,e2,_⟩:=JL hf l ks hl.2.2.2 he
 refine⟨ht,e1,?_⟩
 simp only[Fo.sz]
 omega
theorem tI{f:AT→Fo→R N}(hf:EW f){l:Fo}(hl:l.ok){op ln co nm:Int}{tx:List UInt8}(ht:tx.length≤100000){ks:Nd}(he:Bw f l=.ok ks):NW l ⟨op,ln,co,tx,nm,ks⟩:=by
 obtain⟨e1,e2,_⟩:=JL hf l ks hl he
 refine⟨ht,e1,?_⟩
 simp only
 omega
theorem UZ:EW Kx:=fun t k a ht _ h=>by
 unfold Kx at h
 cases h
 split
 · exact dL (t:=t) (Nat.zero_le _)
 · exact dL (t:=t) ht.2
theorem Yb:∀n,EW (EU n)
 |0=>fun _ _ _ _ _ h=>by cases h
 |n+1=>fun t k a ht hk h=>by
   have ih:=Yb n
   unfold EU at h
   simp only[need] at h
   repeat' (split at h)
   all_goals first
     |(cases h;done)
     |exact UZ t _ a ht hk h
     |(cases h;first|exact dL (t:=t) (Nat.zero_le _)|exact dL (t:=t) ht.2|exact nT ih hk (Nat.zero_le _) (by assumption)|exact nT ih hk hk.1.2 (by assumption))
theorem Rb{t:AT}:∀(x:Nd)(o:N),x.txb→Gx t x=some o→o.tx.length≤100000∧o.kids.txb∧o.kids.size+2≤x.size+x.len
 |.nil,_,_,h=>by cases h
 |.cons op ln co tx nm kids .nil,o,hb,h=>by
   unfold Gx at h
   cases h
   exact⟨hb.1,hb.2.1,by simp only[Nd.size,Nd.len];omega⟩
 |.cons op ln co tx nm kids (.cons a b c d e f r),o,hb,h=>by
   unfold Gx at h
   simp only at h
   cases hr:Gx t (.cons a b c d e f r) with
   |none=>rw[hr] at h;cases h
   |some q =>
     rw[hr] at h
     cases h
     obtain⟨h1,h2,h3⟩:=Rb (.cons a b c d e f r) q hb.2.2 hr
     refine⟨by simp[A3],⟨hb.1,hb.2.1,h1,h2,trivial⟩,?_⟩
     simp only[A3,N.one,N.cons,Nd.size,Nd.len] at h3 ⊢
     omega
theorem Jy{α:Type}{t:AT}{b:Bool}{x:R α}{a:α}(h:need t b x=.ok a):b=true∧x=.ok a:=by
 unfold need at h
 split at h
 · rename_i hb;exact⟨hb,h⟩
 · cases h
theorem SL:∀n,EW (DL n)
 |0=>fun _ _ _ _ _ h=>by cases h
 |n+1=>fun t k a ht hk h=>by
   have ih:=SL n
   unfold DL at h
   by_cases hk0:(t.k==0)=true
   · rw[if_pos hk0] at h
     split at h
     · cases h
     rename_i hd hkk l
     simp only at h
     by_cases hw:hd.isWord [45,62]=true
     · rw[if_pos hw] at h
       obtain⟨_,h⟩:=Jy h
       split at h
       · cases h
       rename_i ks he
       obtain⟨e1,e2,e3⟩:=JL ih l ks hk.2.2.2 he
       split at h
       · rename_i o ho
         cases h
         obtain⟨h1,h2,h3⟩:=Rb ks _ e1 ho
         exact⟨h1,h2,by simp only[Fo.sz];omega⟩
       · cases h
     · rw[if_neg hw] at h
       obtain⟨_,h⟩:=Jy h
       split at h
       · cases h
       rename_i ks he
       cases h
       exact nT ih hk hk.1.2 he
   · rw[if_neg hk0] at h
     split at h
     · cases h;exact dL (t:=t) ht.2
     · obtain⟨_,h⟩:=Jy h
       cases h;exact dL (t:=t) ht.2
theorem jS{n:Nat}{ex:AT→Fo→R N}(hex:EW ex):EW (H6 n ex):=fun t k a ht hk h=>by
 unfold H6 at h
 split at h
 · rename_i p pk b bk
   obtain⟨_,h⟩:=Jy h
   split at h
   · cases h
   rename_i q h1
   obtain⟨_,h⟩:=Jy h
   split at h
   · cases h
   rename_i x h3
   cases h
   have h1:=Yb n _ _ _ hk.1 hk.2.1 h1
   have h3:=hex _ _ _ hk.2.2.2.1 hk.2.2.2.2.1 h3
   refine⟨by simp[A3],⟨h1.tx,h1.kt,h3.tx,h3.kt,trivial⟩,?_⟩
   have:=h1.sz
   have:=h3.sz
   simp only[A3,N.one,N.cons,Nd.size,Fo.sz]
   omega
 · cases h
theorem Q8:∀{x y:Nd},x.txb→y.txb→(x.app y).txb
 |.nil,_,_,h=>h
 |.cons _ _ _ _ _ _ _,_,h,hy=>⟨h.1,h.2.1,Q8 h.2.2 hy⟩
theorem Lg:∀(x y:Nd),(x.app y).size=x.size+y.size
 |.nil,_=>by simp[Nd.app,Nd.size]
 |.cons _ _ _ _ _ _ r,y=>by simp only[Nd.app,Nd.size,Lg r y];omega
theorem pT{x y:N}{k1 k2 k:Fo}(h1:NW k1 x)(h2:NW k2 y)(hs:k1.sz+k2.sz+2≤k.sz){op ln co nm:Int}{tx:List UInt8}(ht:tx.length≤100000):NW k ⟨op,ln,co,tx,nm,x.cons y.one⟩:=by
 refine⟨ht,⟨h1.tx,h1.kt,h2.tx,h2.kt,trivial⟩,?_⟩
 have:=h1.sz
 have:=h2.sz
 simp only[N.one,N.cons,Nd.size]
 omega
theorem pD{x:N}{k1 k:Fo}(h1:NW k1 x)(hs:k1.sz+1≤k.sz){op ln co nm:Int}{tx:List UInt8}(ht:tx.length≤100000):NW k ⟨op,ln,co,tx,nm,x.one⟩:=by
 refine⟨ht,⟨h1.tx,h1.kt,trivial⟩,?_⟩
 have:=h1.sz
 simp only[N.one,N.cons,Nd.size]
 omega
theorem aP{n:Nat}{ex:AT→Fo→R N}(hex:EW ex){t:AT}{w:List UInt8}{l:Fo}{a:N}(hl:l.ok)(h:Bq n ex t w l=.ok a):NW l a:=by
 unfold Bq at h
 simp only[need] at h
 split at h
 · split at h
   · split at h
     · split at h
       · cases h
       rename_i hs h1
       split at h
       · cases h
       rename_i x h3
       cases h
       obtain⟨e1,e2,_⟩:=JL UZ _ _ hl.2.1 h1
       have hx:=hex _ _ _ hl.2.2.2.1 hl.2.2.2.2.1 h3
       refine⟨by simp[A3],Q8 e1 ⟨hx.tx,hx.kt,trivial⟩,?_⟩
       have:=hx.sz
       simp only[A3,Lg,N.one,N.cons,Nd.size,Fo.sz]
       omega
     · cases h
   · cases h
 split at h
 · split at h
   · split at h
     · split at h
       · cases h
       rename_i x h1
       split at h
       · cases h
       rename_i y h3
       cases h
       exact pT (hex _ _ _ hl.2.2.2.1 hl.2.2.2.2.1 h1) (hex _ _ _ hl.2.2.2.2.2.2.1 hl.2.2.2.2.2.2.2.1 h3) (by simp only[Fo.sz];omega) hl.1.2
     · cases h
   · cases h
 split at h
 · split at h
   · split at h
     · split at h
       · cases h
       rename_i x h1
       split at h
       · cases h
       rename_i y h3
       cases h
       exact pT (hex _ _ _ hl.2.2.2.1 hl.2.2.2.2.1 h1) (hex _ _ _ hl.2.2.2.2.2.2.1 hl.2.2.2.2.2.2.2.1 h3) (by simp only[Fo.sz];omega) hl.1.2
     · cases h
   · cases h
 iterate 3
   split at h
   · split at h
     · split at h
       · cases h
       rename_i ks h1
       cases h
       exact tI hex hl (Nat.zero_le _) h1
     · cases h
 split at h
 · split at h
   · split at h
     · cases h
     · split at h
       · cases h
       rename_i x h1
       split at h
       · cases h
       rename_i ars h3
       cases h
       have hx:=hex _ _ _ hl.1 hl.2.1 h1
       obtain⟨e1,e2,_⟩:=JL (jS hex) _ _ hl.2.2.2 h3
       refine⟨by simp[A3],⟨hx.tx,hx.kt,e1⟩,?_⟩
       have:=hx.sz
       simp only[A3,N.cons,Nd.size,Fo.sz]
       omega
   · cases h
 split at h
 · split at h
   · split at h
     · cases h
     rename_i x h1
     cases h
     exact pD (hex _ _ _ hl.1 hl.2.1 h1) (by simp only[Fo.sz];omega) (Nat.zero_le _)
   · cases h
 · cases h
theorem oF{h:AT}{hk l:Fo}{a:N}(h1:NW l a):NW (.cons h hk l) a:=⟨h1.tx,h1.kt,by have:=h1.sz;simp only[Fo.sz];omega⟩
theorem MR:∀n,EW (Cr n)
 |0=>fun _ _ _ _ _ h=>by cases h
 |n+1=>fun t k a ht hk h=>by
   have ih:=MR n
   unfold Cr at h
   simp only[need] at h
   repeat' (split at h)
   all_goals first
     |(cases h;done)
     |exact oF (aP ih hk.2.2.2 h)
     |(cases h;first|exact dL (t:=t) (Nat.zero_le _)|exact dL (t:=t) ht.2|exact nT ih hk hk.1.2 (by assumption)|exact tI ih hk (Nat.zero_le _) (by assumption))
theorem cH(n:Nat):EW (Ih n):=fun t k a ht hk h=>by
 unfold Ih at h
 simp only[need] at h
 repeat' (split at h)
 all_goals first
   |(cases h;done)
   |(cases h;exact nT (SL n) hk hk.1.2 (by assumption))
theorem Sk:∀(k:Fo)(x:Nd),k.ok→Cg k=some x→x.txb∧x.size≤k.sz
 |.nil,x,_,h=>by cases h;exact⟨trivial,Nat.le_refl _⟩
 |.cons v _ r,x,hk,h=>by
   unfold Cg at h
   split at h
   · cases hr:Cg r with
     |none=>rw[hr] at h;cases h
     |some y =>
       rw[hr] at h
       cases h
       have:=Sk r y hk.2.2.2 hr
       exact⟨⟨hk.1.2,trivial,this.1⟩,by simp only[A3,N.cons,Nd.size,Fo.sz];omega⟩
   · cases h
theorem fC(n:Nat):EW (Da n):=fun t k a ht hk h=>by
 unfold Da at h
 simp only[need] at h
 split at h
 · cases h
 rename_i hd hkk l
 have hl:=hk.2.2.2
 split at h
 · split at h
   · split at h
     · split at h
       · split at h
         · cases h
         rename_i vs hv
         split at h
         · cases h
         rename_i cs h1
         cases h
         obtain⟨e1,e2⟩:=Sk _ _ hl.2.2.2.2.1 hv
         obtain⟨e3,e4,_⟩:=JL (cH n) _ _ hl.2.2.2.2.2.2 h1
         refine⟨hl.1.2,Q8 e1 e3,?_⟩
         simp only[A3,Lg,Fo.sz] at e4 ⊢
         omega
       · cases h
     · cases h
   split at h
   · split at h
     · split at h
       · split at h
         · cases h
         rename_i x h1
         split at h
         · cases h
         rename_i y h3
         cases h
         exact pT (SL n _ _ _ hl.2.2.2.1 hl.2.2.2.2.1 h1) (MR n _ _ _ hl.2.2.2.2.2.2.1 hl.2.2.2.2.2.2.2.1 h3) (by simp only[Fo.sz];omega) hl.1.2
       · cases h
     · cases h
   split at h
   · split at h
     · split at h
       · split at h
         · cases h
         rename_i x h1
         cases h
         exact pD (MR n _ _ _ hl.2.2.2.1 hl.2.2.2.2.1 h1) (by simp only[Fo.sz];omega) hl.1.2
       · cases h
     · cases h
   split at h
   · split at h
     · split at h
       · split at h
         · cases h
         rename_i x h1
         cases h
         exact pD (MR n _ _ _ hl.2.2.2.1 hl.2.2.2.2.1 h1) (by simp only[Fo.sz];omega) hl.1.2
       · cases h
     · cases h
   split at h
   · split at h
     · split at h
       · cases h
       rename_i x h1
       cases h
       exact pD (MR n _ _ _ hl.1 hl.2.1 h1) (by simp only[Fo.sz];omega) (Nat.zero_le _)
     · cases h
   · cases h
 · cases h
def EX(f:AT→Fo→R N):Prop:=∀t k a,f t k=.ok a→GY a.op a.kids
theorem L6{f:AT→Fo→R N}(hf:EX f):∀(fo:Fo)(x:Nd),Bw f fo=.ok x→x.wfm 0
 |.nil,x,h=>by cases h;exact .inl rfl
 |.cons t k r,x,h=>by
   unfold Bw at h
   split at h
   · cases h
   rename_i a h1
   split at h
   · cases h
   rename_i b h2
   cases h
   exact⟨hf t k a h1,L6 hf r b h2⟩
theorem Lk{f:AT→Fo→R N}:∀(fo:Fo)(x:Nd),Bw f fo=.ok x→x.len=fo.len
 |.nil,x,h=>by cases h;rfl
 |.cons t k r,x,h=>by
   unfold Bw at h
   split at h
   · cases h
   split at h
   · cases h
   rename_i b h2
   cases h
   simp only[N.cons,Nd.len,Fo.len,Lk r b h2]
theorem XE{n:Nat}{ex:AT→Fo→R N}(hex:EX ex):∀(fo:Fo)(x:Nd),Bw (H6 n ex) fo=.ok x→x.wfm 1
 |.nil,x,h=>by cases h;exact .inr rfl
 |.cons t k r,x,h=>by
   unfold Bw at h
   split at h
   · cases h
   rename_i a h1
   split at h
   · cases h
   rename_i b h2
   cases h
   refine⟨?_,XE hex r b h2⟩
   unfold H6 at h1
   simp only[need] at h1
   repeat' (split at h1)
   all_goals first
     |(cases h1;done)
     |(rename_i h3;cases h1;exact hex _ _ _ h3)
theorem lR:∀(hs:Nd){x:N},GY x.op x.kids→(hs.app x.one).wfm 4
 |.nil,x,h=>.inl ⟨rfl,h⟩
 |.cons op ln co tx nm k r,x,h=>by
   refine .inr ⟨?_,lR r h⟩
   cases r <;> simp[Nd.app,N.one,N.cons]
theorem aC:∀{x:Nd},x.wfm 0→x.len=3→x.wfm 7
 |.cons _ _ _ _ _ _ (.cons _ _ _ _ _ _ (.cons _ _ _ _ _ _ .nil)),h,_=>⟨h.1,h.2.1,h.2.2.1⟩
 |.nil,_,h=>by cases h
 |.cons _ _ _ _ _ _ .nil,_,h=>by cases h
 |.cons _ _ _ _ _ _ (.cons _ _ _ _ _ _ .nil),_,h=>by cases h
 |.cons _ _ _ _ _ _ (.cons _ _ _ _ _ _ (.cons _ _ _ _ _ _ (.cons _ _ _ _ _ _ _))),_,h=>by simp[Nd.len] at h
theorem ZX{n:Nat}{ex:AT→Fo→R N}(hex:EX ex){t:AT}{w:List UInt8}{l:Fo}{a:N}(h:Bq n ex t w l=.ok a):GY a.op a.kids:=by
 unfold Bq at h
 simp only[need] at h
 split at h
 · repeat' (split at h)
   all_goals first
     |(cases h;done)
     |(rename_i h3;cases h;exact .inr (.inr (.inl ⟨rfl,lR _ (hex _ _ _ h3)⟩)))
 split at h
 · repeat' (split at h)
   all_goals first
     |(cases h;done)
     |(rename_i h1 _ _ h3;cases h;exact .inr (.inr (.inr (.inr (.inl ⟨.inl rfl,hex _ _ _ h1,hex _ _ _ h3⟩)))))
 split at h
 · repeat' (split at h)
   all_goals first
     |(cases h;done)
     |(rename_i h1 _ _ h3;cases h;exact .inr (.inr (.inr (.inr (.inl ⟨.inr rfl,hex _ _ _ h1,hex _ _ _ h3⟩)))))
 split at h
 · split at h
   · rename_i hn
     split at h
     · cases h
     rename_i ks h1
     cases h
     have e:=Lk _ _ h1
     have hn:=beq_iff_eq.1 hn
     exact .inr (.inr (.inr (.inr (.inr (.inl ⟨rfl,aC (L6 hex _ _ h1) (show ks.len=3 by omega)⟩)))))
   · cases h
 split at h
 · split at h
   · rename_i hn
     split at h
     · cases h
     rename_i ks h1
     cases h
     have e:=Lk _ _ h1
     have hn:=of_decide_eq_true hn
     exact .inr (.inr (.inr (.inl ⟨.inr rfl,by show 0<ks.len;omega,L6 hex _ _ h1⟩)))
   · cases h
 split at h
 · split at h
   · split at h
     · cases h
     rename_i ks h1
     cases h
     exact .inr (.inr (.inr (.inr (.inr (.inr (.inl ⟨rfl,L6 hex _ _ h1⟩))))))
   · cases h
 split at h
 · split at h
   · split at h
     · cases h
     · split at h
       · cases h
       rename_i x h1
       split at h
       · cases h
       rename_i ars h3
       cases h
       refine .inr (.inr (.inr (.inr (.inr (.inr (.inr (.inl ⟨?_,hex _ _ _ h1,XE hex _ _ h3⟩)))))))
       simp only[A3]
       split
       · exact .inr rfl
       · exact .inl rfl
   · cases h
 split at h
 · split at h
   · split at h
     · cases h
     rename_i x h1
     cases h
     refine .inr (.inr (.inr (.inr (.inr (.inr (.inr (.inr ⟨?_,hex _ _ _ h1⟩)))))))
     simp only[A3]
     split
     · exact .inr rfl
     · exact .inl rfl
   · cases h
 · cases h
theorem No:∀n,EX (Cr n)
 |0=>fun _ _ _ h=>by cases h
 |n+1=>fun t k a h=>by
   have ih:=No n
   unfold Cr at h
   simp only[need] at h
   iterate 4
     split at h
     · cases h;first|exact .inr (.inl ⟨rfl,.inl rfl⟩)|exact .inl (by simp[A3])
   split at h
   · split at h
     · cases h;exact .inl (by simp[A3])
     · cases h
   split at h
   · cases h;exact .inl (by simp[A3])
   split at h
   · split at h
     · split at h
       · cases h
       rename_i ks h1
       cases h
       exact .inr (.inl ⟨rfl,L6 ih _ _ h1⟩)
     · cases h
   split at h
   · exact ZX ih h
   · split at h
     · split at h
       · cases h
       rename_i ks h1
       cases h
       have e:=Lk _ _ h1
       exact .inr (.inr (.inr (.inl ⟨.inl rfl,by show 0<ks.len;rw[e];exact Nat.succ_pos _,L6 ih _ _ h1⟩)))
     · cases h
theorem iP{n:Nat}{t:AT}{k:Fo}{a:N}(h:Da n t k=.ok a):a.op=41∨(a.op=43∧a.kids.wfm 2)∨((a.op=44∨a.op=45∨a.op=46)∧a.kids.wfm 3):=by
 unfold Da at h
 simp only[need] at h
 split at h
 · cases h
 split at h
 · split at h
   · repeat' (split at h)
     all_goals first
       |(cases h;done)
       |(cases h;exact .inl rfl)
   split at h
   · repeat' (split at h)
     all_goals first
       |(cases h;done)
       |(rename_i h3;cases h;exact .inr (.inl ⟨rfl,No n _ _ _ h3⟩))
   split at h
   · repeat' (split at h)
     all_goals first
       |(cases h;done)
       |(rename_i h3;cases h;exact .inr (.inr ⟨.inl rfl,No n _ _ _ h3⟩))
   split at h
   · repeat' (split at h)
     all_goals first
       |(cases h;done)
       |(rename_i h3;cases h;exact .inr (.inr ⟨.inr (.inl rfl),No n _ _ _ h3⟩))
   split at h
   · repeat' (split at h)
     all_goals first
       |(cases h;done)
       |(rename_i h3;cases h;exact .inr (.inr ⟨.inr (.inr rfl),No n _ _ _ h3⟩))
   · cases h
 · cases h
theorem Zp{n:Nat}:∀(fo:Fo)(x:Nd),Bw (Da n) fo=.ok x→x.wft
 |.nil,x,h=>by cases h;trivial
 |.cons t k r,x,h=>by
   unfold Bw at h
   split at h
   · cases h
   rename_i a h1
   split at h
   · cases h
   rename_i b h2
   cases h
   exact⟨iP h1,Zp r b h2⟩
theorem Qi:∀(a:Fo)(t:AT)(k:Fo),(a.snoc t k).sz=a.sz+k.sz+1
 |.nil,_,_=>by simp[Fo.snoc,Fo.sz]
 |.cons _ _ r,t,k=>by simp only[Fo.snoc,Fo.sz,Qi r t k];omega
def VT:List (AT×Fo)→Nat
 | []=>0
 |(_,p)::s=>p.sz+1+VT s
theorem Lc:∀(l:List AT)(st:List (AT×Fo))(cur fo:Fo),Bz l st cur=.ok fo→fo.sz≤VT st+cur.sz+l.length
 | [],[],cur,fo,h=>by simp only[Bz] at h;cases h;simp[VT]
 | [],(o,p)::s,cur,fo,h=>by unfold Bz at h;split at h <;> cases h
 |k::l,st,cur,fo,h=>by
   unfold Bz at h
   split at h
   · split at h
     · cases h
     · have:=Lc l _ _ _ h
       simp only[VT,Fo.sz,List.length_cons] at this ⊢
       omega
   · split at h
     · cases st with
       |nil=>cases h
       |cons op s =>
         have:=Lc l _ _ _ h
         simp only[VT,Qi,List.length_cons] at this ⊢
         omega
     · have:=Lc l _ _ _ h
       simp only[Qi,Fo.sz,List.length_cons] at this ⊢
       omega
structure tD(nds:Nd):Prop where
 wft:nds.wft
 txb:nds.txb
 size:nds.size≤200000
theorem bQ(n:Nat)(src:List UInt8):tD (La n (LQ src)).1:=by
 unfold La
 cases hl:LQ src with
 |error e=>exact⟨trivial,trivial,Nat.zero_le _⟩
 |ok toks =>
   obtain⟨h1,h2⟩:=UP hl
   simp only
   cases ht:Bz toks [] .nil with
   |error e=>exact⟨trivial,trivial,Nat.zero_le _⟩
   |ok fo =>
     simp only
     cases he:Bw (Da n) fo with
     |error e=>exact⟨trivial,trivial,Nat.zero_le _⟩
     |ok nds =>
       have h3:=(Hs toks 0 [] .nil fo h2 oM (by simp) trivial trivial (by simp[Fo.len]) (by rfl) ht).1
       have h4:=Lc toks [] .nil fo ht
       obtain⟨e1,e2,_⟩:=JL (fC n) fo nds h3 he
       simp only[VT,Fo.sz] at h4
       exact⟨Zp fo nds he,e1,by show nds.size≤_;omega⟩
theorem Zt{a b:Int}:((a,b,11):Er).2.2≠0:=(by decide:(11:Int)≠0)
theorem e4{a b:Int}:((a,b,4):Er).2.2≠0:=(by decide:(4:Int)≠0)
theorem ZY{b:BJ}{n:Int}{t:T1}{x:Int}(h:Cl b n t=.error x):x≠0:=by
 unfold Cl at h
 repeat' split at h
 all_goals (cases h;try decide)
theorem OI{f:BJ→Ty→Ty→Except Int BJ}(hf:∀ {b x y e},f b x y=.error e→e≠0){b:BJ}{x y:T1}{r q:Ty}{e:Int}(h:Hj f b x y r q=.error e):e≠0:=by
 unfold Hj at h
 repeat' split at h
 all_goals first
   |exact hf h
   |(cases h;first|decide|exact ZY (by assumption))
theorem Mb:∀(k:Nat){b:BJ}{x y:Ty}{e:Int},J5 k b x y=.error e→e≠0
 |k,b,.nil,y,e,h=>by cases k <;> cases h
 |0,b,.var _ _,y,e,h=>by cases h;decide
 |0,b,.con _ _ _,y,e,h=>by cases h;decide
 |k+1,b,.var n r,y,e,h=>OI (Mb k) h
 |k+1,b,.con tx ka r,y,e,h=>OI (Mb k) h
section
variable{s:CS}{e:Bg}{ln co:Int}{tx:List UInt8}{t u:T1}{x:Er}
theorem HQ(h:F2 s t u ln co=.error x):x.2.2≠0:=by
 unfold F2 at h
 split at h
 · rename_i h1;cases h;exact Mb _ h1
 · cases h
theorem Lw(h:FG s t ln co=.error x):x.2.2≠0:=by
 unfold FG at h
 split at h
 · cases h;first|exact Zt|exact e4
 · cases h
theorem Q1{v:Bool}(h:Hi s e tx t v ln co=.error x):x.2.2≠0:=by
 unfold Hi at h
 repeat' split at h
 · rename_i h1;cases h;exact Lw h1
 · cases h
 · cases h
theorem Vr{k:Nat}(h:Jc s tx k ln co=.error x):x.2.2≠0:=by
 unfold Jc at h
 repeat' split at h
 all_goals (cases h;try exact Zt)
theorem bZ(h:HC s e tx ln co=.error x):x.2.2≠0:=by
 unfold HC at h
 repeat' split at h
 · cases h;first|exact Zt|exact e4
 · rename_i h1;cases h;exact Lw h1
 · cases h
end
def sT(p:Mt):Prop:=∀{s e op ln co tx nm k x},p s e op ln co tx nm k=.error x→x.2.2≠0
def tH(p:Ol):Prop:=∀{s e op ln co tx nm k x},p s e op ln co tx nm k=.error x→x.2.2≠0
section
variable{p:Mt}(hp:sT p)
include hp
theorem P1{e:Bg}:∀(k:Nd){s:CS}{x:Er},EH p e s k=.error x→x.2.2≠0
 |.nil,_,_,h=>by cases h
 |.cons op ln co tx nm k r,s,x,h=>by
   unfold EH at h
   split at h
   · rename_i h1;cases h;exact hp h1
   · split at h
     · rename_i h2;cases h;exact P1 r h2
     · cases h
theorem Vg{e:Bg}:∀(k:Nd){s:CS}{l:Ty}{x:Er},G6 p e s l k=.error x→x.2.2≠0
 |.nil,_,_,_,h=>by cases h
 |.cons op ln co tx nm k r,s,l,x,h=>by
   unfold G6 at h
   split at h
   · rename_i h1;cases h;exact hp h1
   · split at h
     · rename_i h2;cases h;exact HQ h2
     · exact Vg r h
theorem Zv{e:Bg}:∀(k:Nd){s:CS}{t:T1}{x:Er},Ko p e s t k=.error x→x.2.2≠0
 |.nil,_,_,_,h=>by cases h
 |.cons op ln co tx nm k r,s,t,x,h=>by
   unfold Ko at h
   split at h
   · rename_i h1;cases h;exact hp h1
   · split at h
     · rename_i h2;cases h;exact HQ h2
     · exact Zv r h
theorem Xx{s:CS}{e:Bg}{ln co o l c m:Int}{tx x:List UInt8}{k:Nd}{y:Er}(h:H8 p s e ln co tx o l c x m k=.error y):y.2.2≠0:=by
 unfold H8 at h
 split at h
 · rename_i h1;cases h;exact hp h1
 · split at h
   · rename_i h2;cases h;exact HQ h2
   · cases h
omit hp
variable{q:Ol}(hq:tH q)
include hq
theorem Rr:∀(k:Nd){s:CS}{e:Bg}{l:Ty}{x:Er},G7 q s e l k=.error x→x.2.2≠0
 |.nil,_,_,_,_,h=>by cases h
 |.cons op ln co tx nm k r,s,e,l,x,h=>by
   unfold G7 at h
   split at h
   · rename_i h1;cases h;exact hq h1
   · split at h
     · rename_i h2;cases h;exact HQ h2
     · exact Rr r h
theorem RY:∀(k:Nd){s:CS}{e:Bg}{x:Er},FH q s e k=.error x→x.2.2≠0
 |.nil,_,_,_,h=>by cases h
 |.cons op ln co tx nm k r,s,e,x,h=>by
   unfold FH at h
   split at h
   · rename_i h1;cases h;exact hq h1
   · split at h
     · rename_i h2;cases h;exact RY r h2
     · cases h
theorem bE{s:CS}{e:Bg}{op ln co:Int}{tx:List UInt8}{k:Nd}{x:Er}(h:Dn q s e op ln co tx k=.error x):x.2.2≠0:=by
 unfold Dn at h
 repeat' (split at h)
 all_goals first
   |(cases h;done)
   |(cases h;first|exact Vr (by assumption)|exact Rr hq _ (by assumption)|exact RY hq _ (by assumption))
omit hq
theorem Zb:∀n,tH (C6 n)
 |0=>fun h=>by cases h;first|exact Zt|exact e4
 |n+1=>fun h=>by
   unfold C6 at h
   split at h
   · rename_i h1;cases h;exact bE (Zb n) h1
   · split at h
     · rename_i h1;cases h;exact Lw h1
     · cases h
include hp
theorem M9{n:Nat}{e:Bg}{pt:T1}:∀(k:Nd){s:CS}{t:Option T1}{x:Er},DN n p e pt s t k=.error x→x.2.2≠0
 |.nil,_,_,_,h=>by unfold DN at h;cases h
 |.cons _ _ _ _ _ ks r,s,t,x,h=>by
   unfold DN at h
   split at h
   · split at h
     · rename_i h1;cases h;exact Zb _ h1
     · split at h
       · rename_i h1;cases h;exact HQ h1
       · split at h
         · rename_i h1;cases h;exact hp h1
         · split at h
           · split at h
             · rename_i h1;cases h;exact HQ h1
             · exact M9 r h
           · exact M9 r h
   · cases h
theorem aF{n:Nat}{s:CS}{e:Bg}{op ln co:Int}{tx:List UInt8}{k:Nd}{x:Er}(h:Bp n p s e op ln co tx k=.error x):x.2.2≠0:=by
 unfold Bp at h
 by_cases o1:(op==1)=true
 · rw[if_pos o1] at h
   cases h
 rw[if_neg o1] at h
 by_cases o2:(op==2)=true
 · rw[if_pos o2] at h
   cases h
 rw[if_neg o2] at h
 by_cases o3:(op==3)=true
 · rw[if_pos o3] at h
   cases h
 rw[if_neg o3] at h
 by_cases o4:(op==4)=true
 · rw[if_pos o4] at h
   cases h
 rw[if_neg o4] at h
 by_cases o5:(op==5)=true
 · rw[if_pos o5] at h
   exact bZ h
 rw[if_neg o5] at h
 by_cases o6:(op==6)=true
 · rw[if_pos o6] at h
   split at h
   · rename_i h1;cases h;exact Vr h1
   split at h
   · rename_i h1;cases h;exact Vg hp _ h1
   cases h
 rw[if_neg o6] at h
 by_cases o7:(op==7)=true
 · rw[if_pos o7] at h
   split at h
   · cases h
   simp only at h
   split at h
   · rename_i h1;cases h;exact hp h1
   cases h
 rw[if_neg o7] at h
 by_cases o8:(op==8)=true
 · rw[if_pos o8] at h
   split at h
   · cases h
   split at h
   · rename_i h1;cases h;exact hp h1
   exact Zv hp _ h
 rw[if_neg o8] at h
 by_cases o9:(op==9)=true
 · rw[if_pos o9] at h
   split at h
   · split at h
     · rename_i h1;cases h;exact hp h1
     split at h
     · rename_i h1
       cases h
       split at h1
       · cases h1
       · exact Q1 h1
     exact hp h
   · cases h
 rw[if_neg o9] at h
 by_cases o10:(op==10)=true
 · rw[if_pos o10] at h
   split at h
   · split at h
     · rename_i h1;cases h;exact Xx hp h1
     split at h
     · rename_i h1;cases h;exact Q1 h1
     exact hp h
   · cases h
 rw[if_neg o10] at h
 by_cases o11:(op==11)=true
 · rw[if_pos o11] at h
   split at h
   · split at h
     · rename_i h1;cases h;exact hp h1
     split at h
     · rename_i h1;cases h;exact HQ h1
     split at h
     · rename_i h1;cases h;exact hp h1
     split at h
     · rename_i h1;cases h;exact hp h1
     split at h
     · rename_i h1;cases h;exact HQ h1
     cases h
   · cases h
 rw[if_neg o11] at h
 by_cases o12:(op==12)=true
 · rw[if_pos o12] at h
   split at h
   · rename_i h1;cases h;exact P1 hp _ h1
   cases h
 rw[if_neg o12] at h
 by_cases o13:(op==13)=true
 · rw[if_pos o13] at h
   split at h
   · rename_i h1;cases h;exact P1 hp _ h1
   cases h
 rw[if_neg o13] at h
 by_cases o14:(op==14)=true
 · rw[if_pos o14] at h
   split at h
   · cases h
   split at h
   · rename_i h1;cases h;exact hp h1
   exact M9 hp _ h
 rw[if_neg o14] at h
 by_cases o15:(op==15)=true
 · rw[if_pos o15] at h
   split at h
   · cases h
   split at h
   · rename_i h1;cases h;exact hp h1
   exact M9 hp _ h
 rw[if_neg o15] at h
 by_cases o16:(op==16)=true
 · rw[if_pos o16] at h
   split at h
   · cases h
   split at h
   · rename_i h1;cases h;exact hp h1
   split at h
   · rename_i h1;cases h;exact HQ h1
   cases h
 rw[if_neg o16] at h
 split at h
 · cases h
 exact hp h
omit hp
theorem Uy:∀n,sT (Co n)
 |0=>fun h=>by cases h;first|exact Zt|exact e4
 |n+1=>fun h=>by
   unfold Co at h
   split at h
   · rename_i h1;cases h;exact aF (Uy n) h1
   · split at h
     · rename_i h1;cases h;exact Lw h1
     · cases h
end
theorem PW{d:List (List UInt8×Int)}{v:List (List UInt8×T1)}:∀(k:Nd){x:Er},Gw d v k=.error x→x.2.2≠0
 |.nil,_,h=>by cases h
 |.cons op ln co tx nm k r,x,h=>by
   have ih1:=fun{x:Er}=>PW (d:=d) (v:=v) k (x:=x)
   have ih2:=fun{x:Er}=>PW (d:=d) (v:=v) r (x:=x)
   rw[Kg] at h
   split at h
   · rename_i h1
     cases h
     unfold Dd at h1
     split at h1
     · split at h1
       · cases h1
       · cases h1;exact Zt
     · split at h1
       · split at h1
         · rename_i h2;cases h1;exact ih1 h2
         · cases h1
       · cases h1;exact Zt
   · split at h
     · rename_i h2;cases h;exact ih2 h2
     · cases h
theorem Nn{ln co:Int}:∀(k:Nd){v:Int}{m:List (List UInt8×T1)}{self:Ty}{nums:List Int}{x:Er},EE ln co k v m self nums=.error x→x.2.2≠0
 |.nil,_,_,_,_,_,h=>by cases h
 |.cons op _ _ tx _ _ r,v,m,self,nums,x,h=>by
   unfold EE at h
   repeat' (split at h)
   · cases h;first|exact Zt|exact e4
   · exact Nn r h
   · exact Nn r h
theorem Nr{d:List (List UInt8×Int)}{m:List (List UInt8×T1)}{out:T1}{nums:List Int}:∀(k:Nd){c:List (List UInt8×Mk)}{x:Er},DU d m out nums k c=.error x→x.2.2≠0
 |.nil,_,_,h=>by cases h
 |.cons op ln co tx _ kids r,c,x,h=>by
   unfold DU at h
   repeat' (split at h)
   · cases h;first|exact Zt|exact e4
   · rename_i h1;cases h;exact PW _ h1
   · exact Nr r h
   · exact Nr r h
theorem ZJ{s:CS}{ln co:Int}{tx:List UInt8}{k:Nd}{x:Er}(h:G8 s ln co tx k=.error x):x.2.2≠0:=by
 unfold G8 at h
 split at h
 · cases h;first|exact Zt|exact e4
 · split at h
   · rename_i h1;cases h;exact Nn _ h1
   · simp only at h
     split at h
     · rename_i h1;cases h;exact Nr _ h1
     · cases h
theorem iR{s:CS}{e:Bg}{op ln co:Int}{tx:List UInt8}{k:Nd}{x:Er}(h:DP s e op ln co tx k=.error x):x.2.2≠0:=by
 unfold DP at h
 repeat' (split at h)
 all_goals first
   |(cases h;done)
   |(cases h;first|exact Zt|exact ZJ (by assumption)|exact PW _ (by assumption)|exact Uy _ (by assumption)|exact HQ (by assumption)|exact Xx (Uy _) (by assumption)|exact Q1 (by assumption))
theorem Qx:∀(k:Nd){s:CS}{e:Bg}{out:List (List UInt8×T1)}{x:Er},CY s e k out=.error x→x.2.2≠0
 |.nil,_,_,_,_,h=>by cases h
 |.cons op ln co tx nm k r,s,e,out,x,h=>by
   unfold CY at h
   split at h
   · rename_i h1;cases h;exact iR h1
   · exact Qx r h
   · exact Qx r h
theorem Xh{s:CS}:∀{l:List (List UInt8×T1)}{x:Er},II s l=.error x→x.2.2≠0
 | [],_,h=>by cases h
 |(n,t)::l,x,h=>by
   unfold II at h
   split at h
   · rename_i h1;cases h;exact Lw h1
   · split at h
     · rename_i h1;cases h;exact Xh h1
     · cases h
theorem SF{k:Nd}{x:Er}(h:Cq k=.error x):x.2.2≠0:=by
 unfold Cq at h
 split at h
 · rename_i h1;cases h;exact Qx k h1
 · exact Xh h
end Go.SP
namespace Go.Proofs.YthofplgbhecdcaaGreatDoor
open Go.SW Go.SP Go.RowKit
abbrev RB:=RI (List (List UInt8×List UInt8))
def KB(src:List UInt8):RB:=bif (Dw src).2.2.2==0 then Cq (Dw src).1 else .error ((Dw src).2.1,(Dw src).2.2.1,(Dw src).2.2.2)
def WZ:RB→Int×Int×Int
 |.error e=>e
 |.ok _=>(0,0,0)
def tL:RB→List (List UInt8×List UInt8)
 |.error _=>[]
 |.ok l=>l
abbrev tZ(r:RB)(x:Option Addr×Nat):Value:=.tuple #[.slice x.1 (tL r).length x.2,.agg #[.int .i64 (WZ r).1,.int .i64 (WZ r).2.1],.int .i64 (WZ r).2.2]
def pV(r:RB)(w:World)(f:Fq):Value→World→Prop:=BV (α:=Option Addr×Nat) (tZ r) (fun _=>True) (fun x=>[fun w f=>S7 w f (tL r) x.1 x.2]) w f
theorem Wx.out{nds:Nd}{w:World}{f:Fq}{v:Value}{w':World}(h:Wx nds w f v w'):pV (Cq nds) w f v w':=by
 obtain⟨f',hE,h⟩:=h
 cases hi:Cq nds with
 |error er =>
   rw[hi] at h
   exact⟨(none,0),f',h,trivial,hE,⟨Nat.zero_le _,.inl rfl⟩,trivial⟩
 |ok bs =>
   rw[hi] at h
   obtain⟨a,c,h1,h2⟩:=h
   exact⟨(a,c),f',h1,trivial,hE,h2,trivial⟩
theorem Ob(w:World)(f:Fq)(hv:Vl w f)(hG:FE w f)(nds:Nd)(na:Option Addr)(nc:Nat)(hwt:nds.wft)(hsz:nds.size≤200000)(htb:nds.txb)(hN:AK w f nds na nc) :
   BF Tryz.prog 6 #[.slice na nds.len nc] w (pV (Cq nds) w f):=(TP w f hv hG nds na nc hwt hsz htb hN).mono fun _ _ h=>Wx.out h
theorem EL(src:List UInt8):tD (Dw src).1:=bQ 200 src
theorem Zn{src:List UInt8}(h:(Dw src).2.2.2=0):KB src=Cq (Dw src).1:=by unfold KB;rw[h];rfl
theorem Yr{src:List UInt8}(h:(Dw src).2.2.2≠0):KB src=.error ((Dw src).2.1,(Dw src).2.2.1,(Dw src).2.2.2):=by
 unfold KB
 rw[show ((Dw src).2.2.2==0)=false by simpa using h];rfl
def YK:List UInt8:=[40,100,101,102,32,105,100,32,40,102,110,32,40,120,41,32,120,41,41,32,40,100,101,102,32,114,32,40,114,101,102,32,49,41,41]
def Z9:List UInt8:=[40,100,111,32,40,43,32,49,32,34,97,34,41,41]
def fT:List (List UInt8×List UInt8):=[([105,100],[40,45,62,32,39,97,32,39,97,41]),([114],[40,114,101,102,32,105,110,116,41])]
set_option maxRecDepth 100000 in
theorem fS:KB YK=.ok fT:=kR
set_option maxRecDepth 100000 in
theorem jP:KB Z9=.error (1,10,11):=kR
theorem Vm{w:World}{f:Fq}:∀(a b:Nd)(x off:Nat),Ui w f (a.app b) x off→Ui w f a x off
 |.nil,_,_,_,_=>trivial
 |.cons _ _ _ _ _ _ r,b,x,off,⟨h1,h2⟩=>⟨h1,Vm r b x _ h2⟩
theorem len_app:∀(a b:Nd),(a.app b).len=a.len+b.len
 |.nil,b=>(Nat.zero_add _).symm
 |.cons _ _ _ _ _ _ r,b=>by show (r.app b).len+1=r.len+1+b.len;rw[len_app r b];omega
theorem aV{w:World}{f:Fq}{a b:Nd}{x:Option Addr}{c:Nat}(h:AK w f (a.app b) x c):AK w f a x c:=by
 refine⟨by have:=h.1;rw[len_app] at this;omega,?_⟩
 cases a with
 |nil=>exact .inl rfl
 |cons op ln co tx nm k r =>
   rcases h.2 with h|⟨y,off,h1,h2⟩
   · cases h
   · exact .inr ⟨y,off,h1,Vm _ b _ _ h2⟩
theorem R7:∀(k:Nat)(n:Nd),k≤n.len→∃a b:Nd,n=a.app b∧a.len=k
 |0,n,_=>⟨.nil,n,rfl,rfl⟩
 |k+1,.nil,h=>by cases h
 |k+1,.cons op ln co tx nm q r,h=>by
   obtain⟨a,b,rfl,h2⟩:=R7 k r (Nat.le_of_succ_le_succ h)
   exact⟨.cons op ln co tx nm q a,b,rfl,congrArg (· + 1) h2⟩
theorem Ya:∀(a b:Nd),(a.app b).wft→a.wft
 |.nil,_,_=>trivial
 |.cons _ _ _ _ _ _ r,b,⟨h1,h2⟩=>⟨h1,Ya r b h2⟩
theorem Zh:∀(a b:Nd),(a.app b).txb→a.txb
 |.nil,_,_=>trivial
 |.cons _ _ _ _ _ _ r,b,⟨h1,h2,h3⟩=>⟨h1,h2,Zh r b h3⟩
theorem S7.opn{w:World}{f:Fq}{l:List (List UInt8×List UInt8)}{a:Option Addr}{c:Nat}(h:S7 w f l a c)(hl:l≠[]):∃x:Nat×Nat,a=some ⟨x.1,x.2,none⟩∧Cs w f x.1 x.2 (bC l) :=
 h.2.elim (fun h=>absurd h hl) fun⟨b,off,h1,h2⟩=>⟨(b,off),h1,h2⟩
end Go.Proofs.YthofplgbhecdcaaGreatDoor
namespace Go.Proofs.YthofplgbhecdcaaGreatDoor
open Go.SW Go.SP Go.RowKit Go.Lib
section
variable{P:Program}{w:World}
theorem Qq{g:Nat}{t:TypeId}{k:IntKind}{zero:Array Value}(h:w.ShapedOpen P)(hg:g<P.globals.size)
   (h0:((begin P (fun _ _=>0) default).world.heap[g]?).bind Obj.row?=some (zero,t)) (hz:zero.size=1)
   (hb:P.buildable t=true) (hc:P.cellTypes P.depth t=some [t]) (hu:P.underlying t=some (.int k)):∃m,w.cell? ⟨g,0,none⟩=some (.int k m):=by
 obtain⟨cs,hh,hs,hr⟩:=h.1 g zero t hg h0
 obtain⟨ts,hts,_,hall⟩:=hr hb
 rw[hc] at hts
 cases hts
 have h1:0<cs.size:=oM
 obtain⟨u,hu',hok⟩:=hall 0 cs[0] (by simp[h1])
 have:u=t:=by simpa using hu'.symm
 subst this
 have hcell:w.cell? ⟨g,0,none⟩=some cs[0]:=by simp[World.cell?,hh,h1]
 rw[hcell]
 unfold Cell.ok at hok
 rw[hu] at hok
 cases hv:cs[0] with
 |int k' m =>
   rw[hv] at hok
   have hk:k'=k:=by
     simp at hok
     exact hok.1
   exact⟨m,by rw[hk]⟩
 |_=>rw[hv] at hok;simp at hok
theorem Jk{n:String}{g:Nat}{cs:Array Value}(hg:P.globalNamed n=some g)(hv:w.var? P n=some cs)(o:Nat):w.cell? ⟨g,o,none⟩=cs.toList[o]?:=by
 rw[World.var?_cell hg hv o,Array.getElem?_toList]
theorem Um{n:String}{g:Nat}{t:TypeId}{b:Bool}(hn:P.globalNamed n=some g)(hy:(P.globals[g]?).map (·.type)=some t)(ht:P.underlying t=some .bool)(h:VarReads P w n (.lit (.bool b))):w.cell? ⟨g,0,none⟩=some (.bool b):=by
 obtain⟨g',t',cs,fuel,p,hg,hty,hvar,hd⟩:=h
 obtain rfl:=Option.some.inj (hn.symm.trans hg)
 obtain rfl:=Option.some.inj (hy.symm.trans hty)
 obtain⟨b',hc,hx⟩:=DataW.trod_bool ht hd
 rw[Jk hn hvar,hc]
 cases hx
 rfl
theorem QT{n:String}{g:Nat}{t:TypeId}{ms}{d:DataW Unit}(hn:P.globalNamed n=some g)(hy:(P.globals[g]?).map (·.type)=some t)(ht:P.underlying t=some (.interface ms))(h:VarReads P w n d) :
   ∃v,w.cell? ⟨g,0,none⟩=some v∧(v=.nilIface∨∃te pe,v=.iface te pe):=by
 obtain⟨g',t',cs,fuel,p,hg,hty,hvar,hd⟩:=h
 obtain rfl:=Option.some.inj (hn.symm.trans hg)
 obtain rfl:=Option.some.inj (hy.symm.trans hty)
 rw[Jk hn hvar]
 cases fuel with
 |zero=>simp[DataW.trod] at hd
 |succ fuel =>
   unfold DataW.trod at hd
   rw[ht] at hd
   generalize cs.toList=l at hd
   split at hd
   all_goals first
     |(rename_i heq;cases heq;done)
     |(rename_i h1 h2;cases h1;done)
     |(exact⟨_,rfl,.inl rfl⟩)
     |(exact⟨_,rfl,.inr ⟨_,_,rfl⟩⟩)
     |cases hd
theorem U9{n:String}{g:Nat}{t:TypeId}{fs:Array Field}{f:Field}{k:IntKind}{z:Int}{ds:List (DataW Unit)}(hn:P.globalNamed n=some g)(hy:(P.globals[g]?).map (·.type)=some t)(ht:P.underlying t=some (.struct fs))
   (hf:fs[0]?=some f) (hfo:f.offset=0) (hft:P.underlying f.type=some (.int k)) (hfc:P.cellsOf f.type=1) (h:VarReads P w n (.agg (.lit (.int k z)::ds))):w.cell? ⟨g,0,none⟩=some (.int k z):=by
 obtain⟨g',t',cs,fuel,p,hg,hty,hvar,hd⟩:=h
 obtain rfl:=Option.some.inj (hn.symm.trans hg)
 obtain rfl:=Option.some.inj (hy.symm.trans hty)
 obtain⟨xs,m,rfl,hx,hl,hxl,hall⟩:=DataW.trod_struct ht hd
 have h0:=hall 0 f hf
 have e0:xs.map (·.1)=.lit (.int k z)::ds:=by have:=congrArg Prod.fst hx;simpa using this.symm
 cases xs with
 |nil=>cases e0
 |cons x xs =>
   simp only[List.map_cons,List.cons.injEq] at e0
   obtain⟨z',hz,hz2,_⟩:=DataW.trod_int hft (h0.trans (by rfl))
   rw[Jk hn hvar]
   have hzz:z'=z:=by
     have:=hz2▸e0.1
     simpa using this
   subst hzz
   rw[hfo,hfc,List.drop_zero] at hz
   cases hcs:cs.toList with
   |nil=>rw[hcs] at hz;cases hz
   |cons c r=>rw[hcs] at hz;simp at hz;simp[hz]
theorem RJ{n:String}{g:Nat}{t e:TypeId}{l:List (DataW Unit)}{c:Nat}{m:Int}(hn:P.globalNamed n=some g)(hy:(P.globals[g]?).map (·.type)=some t)(ht:P.underlying t=some (.array 256 e))(he:P.underlying e=some (.int .u8))(hc1:P.cellsOf e=1)
   (h:VarReads P w n (.agg l)) (hc:c<256) (hl:l[c]?=some (.lit (.int .u8 m))):w.cell? ⟨g,c,none⟩=some (.int .u8 m):=by
 obtain⟨g',t',cs,fuel,p,hg,hty,hvar,hd⟩:=h
 obtain rfl:=Option.some.inj (hn.symm.trans hg)
 obtain rfl:=Option.some.inj (hy.symm.trans hty)
 obtain⟨xs,k,rfl,hx,hcl,hxl,hall⟩:=DataW.trod_array ht hd
 have e0:xs.map (·.1)=l:=by have:=congrArg Prod.fst hx;simpa using this.symm
 have h1:=hall c hc
 rw[hc1,Nat.mul_one] at h1
 have hxc:xs[c]?=some (xs[c]'oM):=List.getElem?_eq_getElem oM
 rw[hxc] at h1
 obtain⟨z,hz,hz2,_⟩:=DataW.trod_int he h1
 have e1:l[c]?=some ((xs[c]'oM).1):=by rw[← e0,List.getElem?_map,hxc];rfl
 rw[e1,hz2] at hl
 have hzm:z=m:=by simpa using hl
 subst hzm
 rw[Jk hn hvar]
 have h2:((cs.toList.drop c).take 1)[0]?=some (.int .u8 z):=by rw[hz];rfl
 rw[List.getElem?_take] at h2
 simpa using h2
theorem Qp{n:String}{g:Nat}{t e:TypeId}{k:FloatKind}{l:List Nat}(hn:P.globalNamed n=some g)(hy:(P.globals[g]?).map (·.type)=some t)(ht:P.underlying t=some (.slice e))(he:P.underlying e=some (.float k))(hc:P.cellsOf e=1)
   (hl:0<l.length) (h:VarReads P w n (.slice (l.map fun x=>.lit (.float k x)) [])):∃b off len cap,w.cell? ⟨g,0,none⟩=some (.slice (some ⟨b,off,none⟩) len cap)∧l.length≤len∧∀(j v:Nat),l[j]?=some v→w.cell? ⟨b,off+j,none⟩=some (.float k v):=by
 obtain⟨g',t',cs,fuel,p,hg,hty,hvar,hd⟩:=h
 obtain rfl:=Option.some.inj (hn.symm.trans hg)
 obtain rfl:=Option.some.inj (hy.symm.trans hty)
 rcases DataW.trod_slice ht hd with ⟨_,hx⟩|⟨a,len,cap,el,rs,m,rfl,hcs,hx,_,hlc,_,hel,helem,hsp,_⟩
 · cases hx
 have e0:=congrArg Prod.fst hx
 simp only[DataW.slice.injEq] at e0
 have hlen:len=l.length:=by have:=congrArg List.length e0.1;simp at this;omega
 have hcell:∀(j v:Nat),l[j]?=some v→w.cell? (a.add j)=some (.float k v):=by
   intro j v hv
   obtain⟨hj,hjv⟩:=List.getElem?_eq_some_iff.1 hv
   have h1:=helem j oM
   rw[hc,Nat.mul_one] at h1
   obtain⟨b,hb⟩:∃b,el[j]?=some b:=⟨el[j]'oM,List.getElem?_eq_getElem oM⟩
   rw[hb] at h1
   obtain⟨ce,hce,hte⟩:=Option.bind_eq_some_iff.1 h1
   have hb1:b.1=.lit (.float k v):=by
     have:=congrArg (·[j]?) e0.1
     simp[hb,hv] at this
     exact this.symm
   have hce2:ce=[.float k v]:=by
     cases m with
     |zero=>simp[DataW.trod] at hte
     |succ m =>
       unfold DataW.trod at hte
       rw[he] at hte
       split at hte <;> simp_all
       obtain⟨⟨rfl,_⟩,rfl⟩:=hte
       simpa using hb1
   obtain⟨_,_,hcc⟩:=World.cells?_some hce
   have h0:=hcc 0 oM
   rw[hce2] at h0
   have e1:(a.add j).add 0=a.add j:=by simp[Addr.add]
   rw[e1] at h0
   exact h0
 obtain⟨R,o,sR⟩:=a
 obtain rfl:sR=none:=by
   obtain⟨v0,hv0⟩:∃v,l[0]?=some v:=⟨l[0],List.getElem?_eq_getElem hl⟩
   have h00:=hcell 0 v0 hv0
   have:(Addr.add ⟨R,o,sR⟩ 0)=⟨R,o,sR⟩:=by simp[Addr.add]
   rw[this] at h00
   exact Go.Proofs.cell_spot h00
 refine⟨R,o,len,cap,?_,oM,fun j v hv=>?_⟩
 · rw[Jk hn hvar,hcs];rfl
 · have:=hcell j v hv
   rwa[EO] at this
end
end Go.Proofs.YthofplgbhecdcaaGreatDoor
namespace Go.Proofs.YthofplgbhecdcaaGreatDoor
open Go.SW Go.SP Go.RowKit Go.Lib Go.ChangeShapes Go.WideShapes Go.ChangeAt
theorem own:ownKnob Tryz.prog.godebug=none:=kR
def SM:List Nat:=[4607182418800017408,4621819117588971520,4636737291354636288,4652007308841189376,4666723172467343360,4681608360884174848,4696837146684686336,4711630319722168320,4726483295884279808,4741671816366391296,4756540486875873280,4771362005757984768,4786511204640096256,4801453603149578240,4816244402031689728,4831355200913801216,4846369599423283200,4861130398305394688,4876203697187506176,4891288408196988160,4906019910204099648,4921056587992461136,4936209963552724370]
theorem Wo{j v:Nat}(h:Gt[j]?=some v):SM[j]?=some v:=by
 have e:Gt=SM.take 15:=rfl
 rw[e,List.getElem?_take] at h
 split at h
 · exact h
 · cases h
abbrev Vc:List (String×DataW Unit):=Rows.inferFirstsRow.laid
theorem Lp(k:Nat){W:World}{n:String}{d:DataW Unit}(h:laidMet Tryz.prog Vc W)(hk:Vc[k]?=some (n,d):=by rfl):VarReads Tryz.prog W n d:=laidMet.reads h (List.mem_of_getElem? hk)
theorem fZ:(Rows.laid_strings_asciiSpace:DataW Unit)=.agg ((List.range 256).map fun c=>.lit (.int .u8 (if Lib.isSp (UInt8.ofNat c) then 1 else 0))):=kR
theorem oC{W:World}(h:laidMetH Tryz.prog Vc W)(hS:W.ShapedOpen Tryz.prog):Gl W∧∀c:Nat,c<256→W.cell? ⟨0,c,none⟩=some (.int .u8 (if Lib.isSp (UInt8.ofNat c) then 1 else 0)):=by
 rw[MakeChecks.laidMetH_plain _ _ _ (by kernel_rfl)] at h
 refine⟨⟨?_,?_,?_,?_,?_⟩,?_⟩
 · exact Qq (t:=3) (zero:=#[.int .i64 0]) hS (of_decide_eq_true kR) kR kR kR kR Tryz.underlying3
 · obtain⟨ms,hm⟩:=Ir (show Zg Tryz.prog 172=true by kernel_rfl)
   exact QT (t:=172) kR kR hm (Lp 10 h)
 · exact Um (t:=4) kR kR Tryz.underlying4 (Lp 4 h)
 · exact U9 (t:=268) kR kR (fs:=Tryz.prog.fieldsOf 268) kR (f:=(Tryz.prog.fieldsOf 268)[0]!) kR kR kR kR
     (Lp 3 h)
 · obtain⟨b,off,n,c,h1,h2,h3⟩:=Qp (l:=SM) kR kR (t:=303) (e:=182) kR kR kR dC (Lp 6 h)
   exact⟨b,off,n,c,h1,Nat.le_trans dC h2,fun j v hv=>h3 j v (Wo hv)⟩
 · intro c hc
   have hr:=Lp 13 h
   rw[fZ] at hr
   exact RJ (t:=157) (e:=5) kR kR kR kR kR hr hc (by rw[List.getElem?_map,List.getElem?_range hc];rfl)
def eO(w:World):Fq:=fun b=>match w.heap[b]? with
 |some (.cells cs _ _)=>cs.size
 |_=>0
theorem eZ(w:World):Vl w (eO w):=fun b h=>by
 unfold eO
 rw[Array.getElem?_eq_none h]
theorem Oa{w:World}{b o:Nat}{v:Value}(h:w.cell? ⟨b,o,none⟩=some v):o<eO w b:=by
 unfold eO
 unfold World.cell? at h
 cases hb:w.heap[b]? with
 |none=>rw[hb] at h;cases h
 |some x =>
   rw[hb] at h
   cases x with
   |cells c e fr=>simpa using (Array.getElem?_eq_some_iff.1 h).1
   |_=>cases h
theorem dB{W:World}(h:laidMetH Tryz.prog Vc W)(hS:W.ShapedOpen Tryz.prog):D7 W (eO W)∧FE W (eO W):=by
 obtain⟨⟨⟨m,hm⟩,⟨v,h1,h2⟩,h3,h4,⟨b,off,n,c,h5,h6,h7⟩⟩,h8⟩:=oC h hS
 refine⟨fun w' f' hF=>?_,⟨m,fun j v hj=>?_⟩,fun c hc=>⟨Oa (h8 c hc),h8 c hc⟩⟩
 · have k:∀{b o:Nat}{v:Value},W.cell? ⟨b,o,none⟩=some v→w'.cell? ⟨b,o,none⟩=some v:=fun{b o v} h=>((hF b).2 o (Oa h)).trans h
   exact⟨⟨m,k hm⟩,⟨v,k h1,h2⟩,k h3,k h4,⟨b,off,n,c,k h5,h6,fun j v hv=>k (h7 j v hv)⟩⟩
 · cases j with
   |zero=>cases hj;exact⟨Oa hm,hm⟩
   |succ j=>cases hj
theorem Xk{fid:FuncId}{args:Array Value}{W:World}(h:BF Tryz.prog fid args W (BV (α:=Unit) (fun _=>.bool true) (fun _=>True) (fun _=>[]) W (eO W))):BF Tryz.prog fid args W fun v w'=>v=.bool true∧AV W w' :=
 h.mono fun _ _ ⟨_,_,h1,_,h2,_⟩=>⟨h1,h2.stp.ext⟩
end Go.Proofs.YthofplgbhecdcaaGreatDoor
namespace Go.SP
open Go.SW Go.RowKit
theorem I9{b:BJ}:∀{j k:Nat}{x:Ty},D6 b j x=true→j≤k→D6 b k x=true
 |j,k,.nil,_,_=>by cases k <;> rfl
 |0,_,.var _ _,h,_=>by cases h
 |0,_,.con _ _ _,h,_=>by cases h
 |j+1,0,.var _ _,_,hk=>by omega
 |j+1,0,.con _ _ _,_,hk=>by omega
 |j+1,k+1,.var n r,h,hk=>by
   simp only[D6] at h ⊢
   cases hh:Ak b (.var n) with
   |var q=>rw[hh] at h;exact I9 h oM
   |con tx ks=>rw[hh] at h;exact I9 h oM
 |j+1,k+1,.con tx ks r,h,hk=>by
   simp only[D6] at h ⊢
   exact I9 h oM
theorem Uw{b:BJ}{k:Nat}{a r:Ty}(h:D6 b k (a.app r)=true):D6 b k r=true:=by
 rw[Ev,I8] at h
 cases hj:BA b k a with
 |none=>rw[hj] at h;cases h
 |some j =>
   rw[hj] at h
   have h1:=E1 b k a j hj
   have h2:D6 b j r=true:=by rw[Ev];exact h
   exact I9 h2 h1
theorem Y3{b:BJ}(hw:OW b){n:Int}{t:T1}(hn:Cm b n=none)(ht:Ak b t=t)(hf:CQ b n 1000 t.one=true):OW ((n,t)::b):=by
 refine⟨hn,fun m hm=>?_,hw⟩
 subst hm
 refine⟨fun e=>?_,IK hw ht⟩
 have:=HY b n 999 (.var m)
 rw[hf,ht,e] at this
 simp[Tz] at this
theorem JR{b:BJ}{n m:Int}{t:T1}(h:m≠n):Cm ((n,t)::b) m=Cm b m:=by
 simp only[Cm]
 rw[if_neg (by simpa using fun e=>h e.symm)]
def kO(n:Int)(t:T1):T1→T1
 |.var m=>if m=n then t else .var m
 |.con tx k=>.con tx k
theorem Og(n:Int)(t:T1):kO n t (.var n)=t:=if_pos rfl
theorem Qr{n m:Int}(t:T1)(h:m≠n):kO n t (.var m)=.var m:=if_neg h
theorem WK{b:BJ}{n:Int}{t:T1}(hw:OW b)(hw':OW ((n,t)::b))(ht:Ak b t=t):∀(k:Nat)(u:T1),Ez b u≤k→Ak ((n,t)::b) u=kO n t (Ak b u):=by
 have hn:=hw'.1
 have ht':Ak ((n,t)::b) t=t:=by
   cases t with
   |con tx ks=>rfl
   |var m =>
     obtain⟨h1,h2⟩:=hw'.2.1 m rfl
     exact ET (by rw[JR h1];exact h2)
 intro k
 induction k with
 |zero =>
   intro u hu
   cases u with
   |con tx ks=>rfl
   |var m =>
     cases hl:Cm b m with
     |some t2=>have:=Jr hw hl;omega
     |none =>
       rw[ET hl]
       by_cases e:m=n
       · subst e
         rw[Og,Gi hw' (t:=t) (by simp[Cm]),ht']
       · rw[Qr t e,ET (by rw[JR e];exact hl)]
 |succ k ih =>
   intro u hu
   cases u with
   |con tx ks=>rfl
   |var m =>
     cases hl:Cm b m with
     |some t2 =>
       have hr:=Jr hw hl
       have e:m≠n:=fun e=>by rw[e,hn] at hl;cases hl
       rw[Gi hw hl,Gi hw' (t:=t2) (by rw[JR e];exact hl)]
       exact ih t2 oM
     |none =>
       rw[ET hl]
       by_cases e:m=n
       · subst e
         rw[Og,Gi hw' (t:=t) (by simp[Cm]),ht']
       · rw[Qr t e,ET (by rw[JR e];exact hl)]
theorem Ue{b:BJ}{n:Int}{t:T1}(hw:OW b)(hw':OW ((n,t)::b))(ht:Ak b t=t):∀(k:Nat)(x:Ty),D6 ((n,t)::b) k x=true→D6 b k x=true:=by
 intro k
 induction k with
 |zero =>
   intro x h
   cases x with
   |nil=>rfl
   |var _ _=>cases h
   |con _ _ _=>cases h
 |succ k ih =>
   intro x h
   cases x with
   |nil=>rfl
   |con tx ks r=>simp only[D6] at h ⊢;exact ih _ h
   |var m r =>
     have hh:=WK hw hw' ht (Ez b (.var m)) (.var m) (Nat.le_refl _)
     simp only[D6] at h ⊢
     rw[hh] at h
     cases hb:Ak b (.var m) with
     |con tx ks =>
       rw[hb] at h
       exact ih _ h
     |var q =>
       rw[hb] at h
       by_cases e:q=n
       · rw[e,Og] at h
         cases t with
         |var _=>exact ih _ h
         |con _ _=>exact ih _ (Uw h)
       · rw[Qr t e] at h
         exact ih _ h
def SR(b b':BJ):Prop:=OW b→OW b'∧∀k x,D6 b' k x=true→D6 b k x=true
theorem SR.refl(b:BJ):SR b b:=fun h=>⟨h,fun _ _ h=>h⟩
theorem SR.trans{a b c:BJ}(h1:SR a b)(h2:SR b c):SR a c:=fun h=>⟨(h2 (h1 h).1).1,fun k x hx=>(h1 h).2 k x ((h2 (h1 h).1).2 k x hx)⟩
theorem P4{b b':BJ}{x t:T1}{n:Int}(hx:Ak b x=.var n)(ht:Ak b t=t)(h:Cl b n t=.ok b'):SR b b':=fun hw=>by
 unfold Cl at h
 split at h
 · split at h
   · rename_i hf
     cases h
     have hw':=Y3 hw (IK hw hx) ht hf
     exact⟨hw',Ue hw hw' ht⟩
   · cases h
 · cases h
theorem Pb{f:BJ→Ty→Ty→Except Int BJ}(hf:∀b x y b',f b x y=.ok b'→SR b b'){b b':BJ}{x y:T1}{r q:Ty}(hx:∀hw:OW b,Ak b x=x)(hy:∀hw:OW b,Ak b y=y)(h:Hj f b x y r q=.ok b'):SR b b':=fun hw=>by
 have hx:=hx hw
 have hy:=hy hw
 unfold Hj at h
 split at h
 · split at h
   · exact hf _ _ _ _ h hw
   · split at h
     · cases h
     · rename_i hb
       exact (P4 hx hy hb).trans (hf _ _ _ _ h) hw
 · split at h
   · cases h
   · rename_i hb
     exact (P4 hx hy hb).trans (hf _ _ _ _ h) hw
 · split at h
   · cases h
   · rename_i hb
     exact (P4 hy hx hb).trans (hf _ _ _ _ h) hw
 · split at h
   · cases h
   · exact hf _ _ _ _ h hw
theorem LK:∀(k:Nat)(b:BJ)(x y:Ty)(b':BJ),J5 k b x y=.ok b'→SR b b'
 |k,b,.nil,y,b',h=>by
   have:J5 k b .nil y=.ok b:=by cases k <;> rfl
   rw[this] at h;cases h;exact SR.refl _
 |0,b,.var _ _,y,b',h=>by cases h
 |0,b,.con _ _ _,y,b',h=>by cases h
 |k+1,b,.var n r,y,b',h=>Pb (LK k) (fun hw=>I0 hw _) (fun hw=>I0 hw _) h
 |k+1,b,.con tx ka r,y,b',h=>Pb (LK k) (fun _=>rfl) (fun hw=>I0 hw _) h
theorem LM:mD (fun s s'=>SR s.sol s'.sol) where
 refl _:=SR.refl _
 trans:=SR.trans
 fresh _:=SR.refl _
 has h:=by
   obtain⟨m,hm,rfl⟩:=UH h
   exact LK _ _ _ _ _ hm
theorem YU{s s1:CS}{ln co:Int}{tx:List UInt8}{k:Nd}(h:G8 s ln co tx k=.ok s1):s1.sol=s.sol:=by
 unfold G8 at h
 split at h
 · cases h
 · split at h
   · cases h
   · simp only at h
     split at h
     · cases h
     · cases h;rfl
theorem Yx{s s1:CS}{e e1:Bg}{op ln co:Int}{tx:List UInt8}{k:Nd}{o:Option (List UInt8×T1)}(h:DP s e op ln co tx k=.ok (o,e1,s1)):SR s.sol s1.sol:=by
 unfold DP at h
 split at h
 · split at h
   · cases h
   · rename_i hd
     cases h
     rw[YU hd]
     exact SR.refl _
 · split at h
   · cases h;exact SR.refl _
   · split at h
     · split at h
       · cases h
       · split at h
         · cases h
         · split at h
           · cases h;exact SR.refl _
           · split at h
             · cases h
             · rename_i h1
               split at h
               · cases h
               · rename_i h2
                 cases h
                 exact (GM LM _ h1).trans (LM.has h2)
     · split at h
       · split at h
         · cases h
         · rename_i h1
           split at h
           · cases h
           · cases h;exact GM LM _ h1
       · split at h
         · split at h
           · cases h
           · rename_i h1
             split at h
             · cases h
             · cases h;exact Qs LM (GM LM _) h1
         · split at h
           · cases h
           · rename_i h1
             cases h;exact GM LM _ h1
theorem JU:∀(b:Nd)(s:CS)(e:Bg)(out o2:List (List UInt8×T1))(s2:CS),CY s e b out=.ok (o2,s2)→(∃o,o2=out++o)∧SR s.sol s2.sol
 |.nil,s,e,out,o2,s2,h=>by cases h;exact⟨⟨[],by simp⟩,SR.refl _⟩
 |.cons op ln co tx nm k r,s,e,out,o2,s2,h=>by
   unfold CY at h
   split at h
   · cases h
   · rename_i h1
     have h2:=JU r _ _ _ _ _ h
     exact⟨h2.1,(Yx h1).trans h2.2⟩
   · rename_i h1
     have h2:=JU r _ _ _ _ _ h
     obtain⟨⟨o,ho⟩,h3⟩:=h2
     exact⟨⟨_,by rw[ho,List.append_assoc]⟩,(Yx h1).trans h3⟩
theorem IE:∀(a b:Nd)(s:CS)(e:Bg)(out:List (List UInt8×T1))(er:Er),CY s e a out=.error er→CY s e (a.app b) out=.error er
 |.nil,b,s,e,out,er,h=>by cases h
 |.cons op ln co tx nm k r,b,s,e,out,er,h=>by
   unfold CY at h
   simp only[Nd.app,CY]
   split at h
   · rename_i h1;cases h;rfl
   · exact IE r b _ _ _ _ h
   · exact IE r b _ _ _ _ h
theorem J6:∀(a b:Nd)(s:CS)(e:Bg)(out o1 o2:List (List UInt8×T1))(s1 s2:CS),CY s e a out=.ok (o1,s1)→CY s e (a.app b) out=.ok (o2,s2)→(∃o,o2=o1++o)∧SR s1.sol s2.sol
 |.nil,b,s,e,out,o1,o2,s1,s2,h,h'=>by cases h;exact JU b _ _ _ _ _ h'
 |.cons op ln co tx nm k r,b,s,e,out,o1,o2,s1,s2,h,h'=>by
   unfold CY at h
   simp only[Nd.app,CY] at h'
   split at h
   · cases h
   · rename_i h1;rw[h1] at h';exact J6 r b _ _ _ _ _ _ _ h h'
   · rename_i h1;rw[h1] at h';exact J6 r b _ _ _ _ _ _ _ h h'
theorem Vx{s:CS}:∀{l:List (List UInt8×T1)}{er:Er},II s l=.error er→er=(0,0,4)∧∃b,b∈l∧Fv s.sol b.2=false
 | [],er,h=>by cases h
 |(n,t)::l,er,h=>by
   unfold II at h
   split at h
   · rename_i h1
     cases h
     unfold FG at h1
     split at h1
     · rename_i hf
       cases h1
       refine⟨rfl,(n,t),.head _,?_⟩
       unfold CT at hf
       split at hf
       · cases hf
       · rename_i hs;simpa using hs
     · cases h1
   · split at h
     · rename_i h1
       cases h
       obtain⟨h2,b,h3,h4⟩:=Vx h1
       exact⟨h2,b,.tail _ h3,h4⟩
     · cases h
theorem UJ{s:CS}:∀{l:List (List UInt8×T1)}{b:List UInt8×T1},b∈l→Fv s.sol b.2=false→∃er,II s l=.error er
 |(n,t)::l,b,hb,hs=>by
   unfold II
   rcases List.mem_cons.1 hb with rfl|hb
   · have:FG s t 0 0=.error (0,0,4):=by unfold FG CT;rw[if_neg (by rw[hs];decide)]
     rw[this]
     exact⟨_,rfl⟩
   · obtain⟨er,he⟩:=UJ hb hs
     split
     · exact⟨_,rfl⟩
     · rw[he];exact⟨_,rfl⟩
theorem Y1{a:Nd}{o1:List (List UInt8×T1)}{s1:CS}(h:CY VO Mv a []=.ok (o1,s1)):OW s1.sol:=((JU a _ _ _ _ _ h).2 trivial).1
theorem Lr{a:Nd}(b:Nd){er:Er}(h:Cq a=.error er):Cq (a.app b)=.error er∨er.1=0∧∃er',Cq (a.app b)=.error er':=by
 unfold Cq at h ⊢
 cases h1:CY VO Mv a [] with
 |error x =>
   rw[h1] at h
   cases h
   rw[IE a b _ _ _ _ h1]
   exact .inl rfl
 |ok z =>
   obtain⟨o1,s1⟩:=z
   rw[h1] at h
   obtain⟨rfl,q,hq,hs⟩:=Vx h
   refine .inr ⟨rfl,?_⟩
   cases h2:CY VO Mv (a.app b) [] with
   |error x=>exact⟨_,rfl⟩
   |ok z =>
     obtain⟨o2,s2⟩:=z
     obtain⟨⟨o,rfl⟩,hr⟩:=J6 a b _ _ _ _ _ _ _ h1 h2
     refine UJ (List.mem_append.2 (.inl hq)) ?_
     cases hx:Fv s2.sol q.2 with
     |false=>rfl
     |true=>rw[show Fv s1.sol q.2=true from (hr (Y1 h1)).2 _ _ hx] at hs;cases hs
end Go.SP
namespace Go.Proofs.YthofplgbhecdcaaGreatDoor
open Go.SW Go.SP Go.RowKit
theorem Za{r:RB}(h:(WZ r).2.2≠0):∃e,r=.error e:=by
 cases r with
 |error e=>exact⟨e,rfl⟩
 |ok l=>exact absurd rfl h
theorem bN{a b:Nd}(hg:(WZ (Cq a)).2.2≠0)(hp:¬((WZ (Cq (a.app b))).1=(WZ (Cq a)).1∧(WZ (Cq (a.app b))).2.1=(WZ (Cq a)).2.1)):¬0<(WZ (Cq a)).1:=by
 obtain⟨e,he⟩:=Za hg
 rcases Lr b he with h|⟨h,_⟩
 · rw[h,he] at hp;exact absurd ⟨rfl,rfl⟩ hp
 · rw[he];show ¬0<e.1;omega
theorem Vi{a b:Nd}(hg:(WZ (Cq a)).2.2≠0):(WZ (Cq (a.app b))).2.2≠0:=by
 obtain⟨e,he⟩:=Za hg
 rcases Lr b he with h|⟨_,e',h⟩
 · rw[h];exact SF h
 · rw[h];exact SF h
theorem fY(x:Int):0≤IntKind.u64.wrap x:=by
 simp only[IntKind.wrap,IntKind.signed,IntKind.bits]
 simp
 omega
theorem Xw{P:Program}{σ:Bo}{w:World}{ty t t':TypeId}{x y:Operand}{a1 a2 b1 b2:Int}(h:SO P t=true)(hx:ev σ x=some (.agg #[.int .i64 a1,.int .i64 a2]))(hy:ev σ y=some (.agg #[.int .i64 b1,.int .i64 b2])) :
   AO P σ (.binOp .neq t x y t') ty w (.bool (!(a1==b1&&a2==b2))) w:=fun ρ _ _ _ _ hρ=>by
 have hg:P.eqGuardType P.depth t=false:=by
   unfold SO at h
   split at h
   · simp only[Bool.and_eq_true] at h;simpa using h.2.2
   · cases h
 have e:(Op.equal t (.agg #[.int .i64 a1,.int .i64 a2]) (.agg #[.int .i64 b1,.int .i64 b2])).run P w=.ok (a1==b1&&a2==b2) w:=OU (w:=w) (a1:=a1) (a2:=a2) (b1:=b1) (b2:=b2) h 9998
 simp[execOp,hρ _ _ hx,hρ _ _ hy,run_eqGuard_agg w _ _ _ _ _ _ hg,binOp,e]
end Go.Proofs.YthofplgbhecdcaaGreatDoor
namespace Go.Proofs.YthofplgbhecdcaaGreatDoor
open Go.SW Go.RowKit
theorem V3:Xn Tryz.prog 3 29=some .u64:=kR
theorem ZZ:Xn Tryz.prog 29 3=some .i64:=kR
theorem VA:BS Tryz.prog 4:=Ao Tryz.func4 kR kR
theorem dK:BS Tryz.prog 5:=Ao Tryz.func5 kR kR
theorem YG:BS Tryz.prog 6:=Ao Tryz.func6 kR kR
theorem eB:BS Tryz.prog 7:=Ao Tryz.func7 kR kR
theorem bH:FA Tryz.prog 25 0=some 0:=kR
theorem Z0:SO Tryz.prog 25=true:=kR
end Go.Proofs.YthofplgbhecdcaaGreatDoor
namespace Go.Proofs.YthofplgbhecdcaaGreatDoor
open Go.SW Go.SP Go.RowKit
def uQ:Ea:=⟨[(36,1,1)],[(30,36,2)],[],[],[(25,true,2),(9,false,1)],[(25,[.int .i64 0,.int .i64 0])],[(25,[(0,1),(1,1)])],[]⟩
theorem LU:uQ.Ok Tryz.prog:=⟨(And.intro UN trivial),(And.intro eQ trivial),trivial,trivial,(And.intro CV (And.intro Hx trivial)),(And.intro V8 trivial),(And.intro Y8 trivial),trivial⟩
theorem Np(w:World)(f:Fq)(hv:Vl w f)(hJ:D7 w f)(hG:FE w f)(src:List UInt8) :
   BF Tryz.prog 7 #[S src] w (pV (KB src) w f):=by
 refine Dg (X:=X0 w f) (H:=[]) (R:=[]) (B:=[]) (Fs:=[fun w f=>D7 w f,fun w f=>FE w f]) (f:=f) Tryz.func7 rfl rfl rfl (C7 hv ⟨hJ,hG,trivial⟩ ⟨D7.mono,FE.mono,trivial⟩)<|go LU 10 [] (fun b1=>fun _=>B8 rfl rfl (eC dK rfl rfl) (fun w f hM=>QU w f hM.vl hM.f0 src) (fun _=>⟨AK.mono,trivial⟩) ?_)
 rintro⟨na,nc⟩ -
 dsimp only
 refine go LU 17 [0] (fun b2=>y<|fun _=>AZ 15 rfl rfl (fun h1=>?_) (fun h1=>?_))
 refine go LU 2 [] (fun _=>Dj [0] Ap (rd [0,1,2] (.br 3 (.rd 4 .fin) .fin)) rfl kR<|AA LU 3 [0] (y<|fun _=>Ag rfl ?_ Ai))
 exact go LU 2 [1] (y<|fun _=>Ax [0] rfl<|AA LU 1 [] (fun _=>B3<|go LU 3 [] (fun _=>AY (fun w f hM=>Ex rfl (Aj rfl) (Ac rfl CV hM.k1 rfl) (Aj rfl)) (fun w f hM=>(by rw[Yr (by simpa using h1)];exact⟨(none,0),f,rfl,trivial,hM.exm,⟨Nat.zero_le _,.inl rfl⟩,trivial⟩)))))
 refine go LU 6 [] (fun _=>B8 rfl rfl (eC YG rfl rfl) (fun w f hM=>Ob w f hM.vl hM.f2 _ na nc (EL src).wft (EL src).size (EL src).txb hM.f0) (fun _=>⟨S7.mono,trivial⟩) ?_)
 rintro⟨a,c⟩ -
 exact go LU 9 [1] (y<|fun _=>AY (fun w f hM=>Ex rfl (Aj rfl) (Ac rfl CV hM.k1 rfl) (Aj rfl)) (fun w f hM=>(by rw[Zn (by simpa using h1)];exact⟨(a,c),f,rfl,trivial,hM.exm,hM.f0,trivial⟩)))
theorem RZ(w:World)(f:Fq)(hv:Vl w f)(hJ:D7 w f)(hG:FE w f):BF Tryz.prog 7 #[S YK] w (BV (α:=Option Addr×Nat) (fun x=>.tuple #[.slice x.1 2 x.2,.agg #[.int .i64 0,.int .i64 0],.int .i64 0]) (fun _=>True) (fun x=>[fun w f=>S7 w f fT x.1 x.2]) w f):=by
 have h:=Np w f hv hJ hG YK
 rw[fS] at h
 exact h
theorem QM(w:World)(f:Fq)(hv:Vl w f)(hJ:D7 w f)(hG:FE w f):BF Tryz.prog 7 #[S Z9] w (BV (α:=Option Addr×Nat) (fun x=>.tuple #[.slice x.1 0 x.2,.agg #[.int .i64 1,.int .i64 10],.int .i64 11]) (fun _=>True) (fun x=>[fun w f=>S7 w f ([]:List (List UInt8×List UInt8)) x.1 x.2]) w f):=by
 have h:=Np w f hv hJ hG Z9
 rw[jP] at h
 exact h
theorem HH(w:World)(f:Fq)(hv:Vl w f)(hJ:D7 w f)(hG:FE w f) :
   BF Tryz.prog 4 #[] w (BV (α:=Unit) (fun _=>.bool true) (fun _=>True) (fun _=>[]) w f):=by
 refine Dg (X:=X0 w f) (H:=[]) (R:=[]) (B:=[]) (Fs:=[fun w f=>D7 w f,fun w f=>FE w f]) (f:=f) Tryz.func4 rfl rfl rfl (C7 hv ⟨hJ,hG,trivial⟩ ⟨D7.mono,FE.mono,trivial⟩)<|go LU 7 [] (fun _=>B8 rfl rfl (eC eB rfl rfl) (fun w f hM=>RZ w f hM.vl hM.f0 hM.f1) (fun _=>⟨S7.mono,trivial⟩) ?_)
 rintro⟨ba,bc⟩ -
 refine CB (α:=Nat×Nat) (fun x=>ba=some ⟨x.1,x.2,none⟩) (fun x=>[⟨x.1,x.2,bC fT⟩]) (fun x=>[]) (fun w f hM=>let ⟨x,h1,h2⟩:=S7.opn hM.f0 (List.cons_ne_nil _ _);⟨x,h1,oE h2,nE⟩) (fun x=>Af.mem trivial) ?_
 rintro⟨eb,eo⟩ rfl
 refine go LU 12 [0] (fun b1=>y<|fun _=>B8 rfl rfl (eC eB rfl rfl) (fun w f hM=>QM w f hM.vl hM.f1 hM.f2) (fun _=>⟨S7.mono,trivial⟩) ?_)
 rintro⟨da,dc⟩ -
 exact go LU 40 [0,100,1,100,3,0] (fun b2=>y<|And.intro dC<|y2<|And.intro dC<|y2<|y<|fun _=>Fh rfl rfl (fun w f hM=>X3 Z0 rfl rfl)<|go LU 5 [] (fun _=>AY (Dz rfl rfl) (fun w f hM=>⟨(),f,rfl,trivial,hM.exm,trivial⟩)))
def uF:Ea:=⟨[(25,0,0)],[(23,54,6)],[9],[],[(25,true,2),(3,false,1)],[(25,[.int .i64 0,.int .i64 0])],[],[]⟩
theorem Fm:uF.Ok Tryz.prog:=⟨(And.intro bH trivial),(And.intro EI trivial),(And.intro H7 trivial),trivial,(And.intro CV (And.intro CZ trivial)),(And.intro V8 trivial),trivial,trivial⟩
theorem Sy(w:World)(f:Fq)(hv:Vl w f)(hJ:D7 w f)(hG:FE w f)(src:List UInt8)(cut:Int) :
   BF Tryz.prog 3 #[S src,.int .i64 cut] w (BV (α:=Unit) (fun _=>.bool true) (fun _=>True) (fun _=>[]) w f):=by
 refine Dg (X:=X0 w f) (H:=[]) (R:=[]) (B:=[]) (Fs:=[fun w f=>D7 w f,fun w f=>FE w f]) (f:=f) Tryz.func3 rfl rfl rfl (C7 hv ⟨hJ,hG,trivial⟩ ⟨D7.mono,FE.mono,trivial⟩)<|go Fm 13 [] (fun _=>AZ 17 rfl rfl (fun h1=>?_) (fun h1=>?_))
 refine go Fm 3 [] (fun _=>B8 rfl rfl (eC VA rfl rfl) (fun w f hM=>HH w f hM.vl hM.f0 hM.f1) (fun _=>trivial) ?_)
 rintro⟨⟩ -
 exact go Fm 5 [] (fun _=>AY (Dz rfl rfl) (fun w f hM=>⟨(),f,rfl,trivial,hM.exm,trivial⟩))
 refine go Fm 6 [] (fun _=>B8 rfl rfl (eC dK rfl rfl) (fun w f hM=>QU w f hM.vl hM.f0 src) (fun _=>⟨AK.mono,trivial⟩) ?_)
 rintro⟨na,nc⟩ -
 dsimp only
 refine go Fm 13 [0] (fun b1=>y<|fun _=>B8 rfl rfl (eC VA rfl rfl) (fun w f hM=>HH w f hM.vl hM.f1 hM.f2) (fun _=>trivial) ?_)
 rintro⟨⟩ -
 refine go Fm 6 [] (fun _=>AZ 31 rfl rfl (fun h2=>?_) (fun h2=>?_))
 refine go Fm 9 [] (fun _=>B8 rfl rfl (eC VA rfl rfl) (fun w f hM=>HH w f hM.vl hM.f1 hM.f2) (fun _=>trivial) ?_)
 rintro⟨⟩ -
 exact go Fm 5 [] (fun _=>AY (Dz rfl rfl) (fun w f hM=>⟨(),f,rfl,trivial,hM.exm,trivial⟩))
 refine go Fm 6 [] (fun _=>AZ 35 rfl rfl (fun h3=>?_) (fun h3=>?_))
 refine go Fm 3 [] (fun _=>B8 rfl rfl (eC VA rfl rfl) (fun w f hM=>HH w f hM.vl hM.f1 hM.f2) (fun _=>trivial) ?_)
 rintro⟨⟩ -
 exact go Fm 5 [] (fun _=>AY (Dz rfl rfl) (fun w f hM=>⟨(),f,rfl,trivial,hM.exm,trivial⟩))
 refine go Fm 4 [] (fun _=>?_)
 have hln:0<(Dw src).1.len:=by have:¬((Dw src).1.len:Int)=0:=(by simpa using h3);omega
 have hsz:=Nat.le_trans (Nd.len_le (Dw src).1) (EL src).size
 generalize hm:IntKind.u64.wrap cut=m
 have hm0:0≤m:=by rw[← hm];exact fY _
 obtain⟨k,hk,hkl⟩:∃k:Nat,m.tmod ((Dw src).1.len:Int)=(k:Int)∧k<(Dw src).1.len:=⟨(m.tmod ((Dw src).1.len:Int)).toNat,by have:=Int.tmod_nonneg ((Dw src).1.len:Int) hm0;omega,by have:=Int.tmod_lt_of_pos m (show (0:Int)<(Dw src).1.len by omega);have:=Int.tmod_nonneg ((Dw src).1.len:Int) hm0;omega⟩
 obtain⟨u,v,huv,hul⟩:=R7 k (Dw src).1 oM
 refine go Fm 2 [] (fun _=>Fh rfl rfl (fun w f hM=>Dh (m:=m) rfl V3 (hm))<|go Fm 2 [] (fun _=>Fh rfl rfl (fun w f hM=>Dh (m:=((Dw src).1.len:Int)) rfl V3 (GL ⟨oM,oM⟩))<|Fh rfl rfl (fun w f hM=>aQ (k:Int) rfl rfl oM hk)<|Fh rfl rfl (fun w f hM=>Dh (m:=(k:Int)) rfl ZZ (IS ⟨oM,oM⟩))<|go Fm 6 [] (fun _=>B8 rfl rfl (eC YG rfl rfl) (fun w f hM=>Ob w f hM.vl hM.f2 _ na nc (EL src).wft (EL src).size (EL src).txb hM.f0) (fun _=>⟨S7.mono,trivial⟩) ?_)))
 rintro⟨a1,c1⟩ -
 refine go Fm 14 [0] (fun b2=>y<|fun _=>Fh rfl rfl (fun w f hM=>NS (i:=u.len) (by rw[hul]) rfl rfl EI (by have:=hM.f1.1;omega))<|B8 rfl rfl (eC YG rfl rfl) (fun w f hM=>Ob w f hM.vl hM.f3 u na nc (Ya u v (huv▸(EL src).wft)) (by have:=(EL src).size;rw[huv,Lg] at this;omega) (Zh u v (huv▸(EL src).txb)) (aV (b:=v) (huv▸hM.f1))) (fun _=>⟨S7.mono,trivial⟩) ?_)
 rintro⟨a2,c2⟩ -
 refine go Fm 16 [0] (fun b3=>y<|fun _=>AZ 60 rfl rfl (fun h4=>?_) (fun h4=>?_))
 refine go Fm 2 [1,0] (y<|y<|fun _=>Fh rfl rfl (fun w f hM=>Xw Z0 rfl rfl)<|go Fm 2 [] (fun _=>AZ 65 rfl rfl (fun h5=>?_) (fun h5=>?_)))
 refine go Fm 6 [0] (y<|fun _=>AZ 69 rfl rfl (fun h6=>?_) (fun h6=>?_))
 exact go Fm 8 [] (fun _=>absurd (of_decide_eq_true h6) (bN (a:=u) (b:=v) (by simpa using h4) (by rw[huv] at h5;intro hh;simp[hh.1,hh.2] at h5)))
 refine go Fm 8 [] (fun _=>AZ 72 rfl rfl (fun h7=>?_) (fun h7=>?_))
 exact go Fm 7 [] (fun _=>AY (Dz rfl rfl) (fun w f hM=>⟨(),f,rfl,trivial,hM.exm,trivial⟩))
 exact go Fm 7 [] (fun _=>absurd (by rw[← huv];simpa using h7) (Vi (a:=u) (b:=v) (by simpa using h4)))
 refine go Fm 14 [] (fun _=>AZ 72 rfl rfl (fun h8=>?_) (fun h8=>?_))
 exact go Fm 7 [] (fun _=>AY (Dz rfl rfl) (fun w f hM=>⟨(),f,rfl,trivial,hM.exm,trivial⟩))
 exact go Fm 7 [] (fun _=>absurd (by rw[← huv];simpa using h8) (Vi (a:=u) (b:=v) (by simpa using h4)))
 refine go Fm 19 [] (fun _=>AZ 72 rfl rfl (fun h9=>?_) (fun h9=>?_))
 exact go Fm 7 [] (fun _=>AY (Dz rfl rfl) (fun w f hM=>⟨(),f,rfl,trivial,hM.exm,trivial⟩))
 exact go Fm 7 [] (fun _=>AY (Dz rfl rfl) (fun w f hM=>⟨(),f,congrArg Value.bool (by simpa using h4),trivial,hM.exm,trivial⟩))
end Go.Proofs.YthofplgbhecdcaaGreatDoor
namespace Go.Proofs.YthofplgbhecdcaaGreatDoor.Firsts
open Go.SW Go.SP Go.RowKit Go.Lib Go.ChangeShapes Go.WideShapes Go.ChangeAt Go.ChangeMaps
set_option maxRecDepth 100000 in
theorem YE(H:Type)(enc:TypeId×Value→H)(W:World)(base:Nat)(args:Array Value)(ds gs:List (DataW H))(before:List MemPlace)
   (hval:∀(j:Nat) t v,Tryz.f3.params[j]?=some t→args[j]?=some v→Value.okWide Tryz.prog W .any base t v)
   (hW:DataW.Whole enc Tryz.prog Tryz.f3.params.toList Rows.inferFirstsSpec.vars false W args.toList ds gs before) (hL:laidMetH Tryz.prog Rows.inferFirstsRow.laid W) (hS:W.ShapedOpen Tryz.prog) :
   Calls Tryz.prog 3 args W fun e W'=>∃v,e=.returned v∧Rows.inferFirstsSpec.post enc Tryz.prog Tryz.f3 false true false false W args v W':=by
 have hW':=hW
 obtain⟨p,q,hA0,hV,rfl,hfz,hnd⟩:=hW
 have hA:DataW.TrodAll enc Tryz.prog W 0 (fun _=>true) true Tryz.f3.params.toList args.toList ds p:=hA0
 rw[Tryz.params3] at hA hval
 obtain⟨v0,vs0,d0,ds0,p0,q0,hargs0,rfl,rfl,h0,r0⟩:=trodAll_cons hA
 obtain⟨v1,vs1,d1,ds1,p1,q1,hargs1,rfl,rfl,h1,r1⟩:=trodAll_cons r0
 obtain⟨rfl,rfl,rfl⟩:=trodAll_nil r1
 obtain rfl:args=#[v0,v1]:=by
   obtain⟨l⟩:=args
   exact congrArg Array.mk (hargs0.trans (congrArg _ (hargs1)))
 obtain⟨rfl,rfl⟩:=trodVars_none hV
 obtain⟨⟨⟨x0⟩⟩,rfl,rfl,rfl,wx0⟩:=open_string Tryz.underlying9 (hval 0 9 v0 rfl rfl) h0
 obtain⟨x1,rfl,rfl,rfl,wx1⟩:=open_int Tryz.underlying3 (hval 1 3 v1 rfl rfl) h1
 clear hA0
 simp only[List.append_nil] at hW'
 refine Calls.mono (Xk (Sy W (eO W) (eZ W) (dB hL hS).1 (dB hL hS).2 x0 x1)) ?_
 rintro e W' ⟨v,rfl,rfl,hb⟩
 exact⟨_,rfl,_,_,_,[],[],[],hW',trodAll_cons_mk (shut_bool Tryz.underlying4 _) trodAll_mk0,trodAll_cons_mk (shut_string Tryz.underlying9 wx0) (trodAll_cons_mk (shut_int Tryz.underlying3 wx1) trodAll_mk0),rfl,hb.frame _,fun h=>by cases h⟩
noncomputable def lw(os:Os):World:=World.laidAll Tryz.prog os Rows.inferFirstsRow.laid
theorem Yz(os:Os):laidMetH Tryz.prog Rows.inferFirstsRow.laid ((lw os).forCall (fun _ _=>0) ⟨#[],#[Value.string ⟨#[]⟩,Value.int .i64 0],[]⟩).memory:=by
 rw[MakeChecks.laidMetH_plain _ _ _ (by kernel_rfl)]
 exact laidMet_laidAll _ kR kR
theorem reads(os:Os){H:Type}(enc:TypeId×Value→H):∃places,DataW.whole enc Tryz.prog ((lw os).forCall (fun _ _=>0) ⟨#[],#[Value.string ⟨#[]⟩,Value.int .i64 0],[]⟩).memory Tryz.f3.params.toList Rows.inferFirstsSpec.vars false (#[Value.string ⟨#[]⟩,Value.int .i64 0]:Array Value).toList 8=some ([.lit (.string []),.lit (.int .i64 0)],[],places) :=
 ⟨[],kR⟩
set_option maxRecDepth 100000 in
theorem lifted(os:Os)(started:os.Started)(H:Type)(enc:TypeId×Value→H)(F:Stop.Interp) :
   ReturnsInHanded {} Tryz.checked os 3 .any ((OpenSpec.ofChange Rows.inferFirstsSpec).preRow enc Tryz.prog Tryz.f3 Rows.inferFirstsRow.domain false Rows.inferFirstsRow.laid) (((OpenSpec.ofChange Rows.inferFirstsSpec).at F).post enc Tryz.prog Tryz.f3 false true false false):=by
 obtain⟨places,hx⟩:=reads os enc
 refine returnsInHanded_of_row (C:=Tryz.checked) (s:=OpenSpec.ofChange Rows.inferFirstsSpec) own started kR Tryz.func3
   ⟨lw os,fun _ _=>0,⟨#[],#[Value.string ⟨#[]⟩,Value.int .i64 0],[]⟩,World.laidAll_os _ _ _,World.shaped_of_ZipB kR kR,rfl,(Input.okWide_of_okWideB kR).2,
     OpenSpec.preRow_of_cond 8 hx kR (fun k hk=>by cases hk) kR (Yz os),by simp[Assume.holds]⟩ ?_
 intro W base args ds gs before hval hW _ _ _ hL hS _
 exact YE H enc W base args ds gs before hval hW hL hS
abbrev jc:=Rows.inferFirstsRow
abbrev js:=(OpenSpec.ofChange Rows.inferFirstsSpec).bare
theorem jT{a b:Bool}(h:a=true)(k:b=true):(a&&b)=true:=by rw[h,k];rfl
theorem jL{a b:Bool}(h:(a&&b)=true):a=true:=((Bool.and_eq_true a b).mp h).1
theorem jR{a b:Bool}(h:(a&&b)=true):b=true:=((Bool.and_eq_true a b).mp h).2
theorem j0:((jc.wf (OpenSpec.ofChange js))&&(laidOutB Tryz.pinned.checked.prog)&&(mapsRowed Tryz.pinned.checked.prog)&&(Tryz.f3.params.all (Tryz.pinned.checked.prog.readableRec ·))&&(namedTie Tryz.pinned.checked.prog jc.named js.vars)&&((jc.stops==[]))&&((Tryz.pinned.checked.prog.stops==[]))&&((jc.knobs==[]))&&((Tryz.pinned.checked.prog.stopKnobs==[])))=true:=kR
theorem j1:(((jc.inPlace==Tryz.pinned.checked.prog.inPlace 3))&&((jc.unfollowed==Tryz.pinned.checked.prog.unfollowed 3))&&((jc.recurses==Tryz.pinned.checked.prog.recurses 3))&&((jc.named==Tryz.pinned.checked.prog.varsNamed 3)))=true:=kR
theorem j2:(((jc.maps==(Tryz.f3.params.toList++js.plain.varTypes Tryz.pinned.checked.prog).any (Tryz.pinned.checked.prog.mapsRec ·)))&&((jc.ifaces==(Tryz.f3.params.toList++js.plain.varTypes Tryz.pinned.checked.prog).any (Tryz.pinned.checked.prog.ifacesRec ·)))&&((jc.mapsOut==Tryz.pinned.checked.prog.mapsAmong Tryz.f3.resultTypes.toList))&&((jc.loops==(Tryz.f3.params.toList++js.plain.varTypes Tryz.pinned.checked.prog).any (Tryz.pinned.checked.prog.loopsFrom ·)))&&((jc.wideKeys==(Tryz.f3.params.toList++js.plain.varTypes Tryz.pinned.checked.prog++Tryz.f3.resultTypes.toList).any (Tryz.pinned.checked.prog.wideKeysFrom ·)))&&(js.vars.all (Tryz.pinned.checked.prog.varReadable ·)))=true:=kR
theorem j3:((Tryz.f3.resultTypes.all (fun t=>Tryz.pinned.checked.prog.readableRec t&&decide (t < Tryz.pinned.checked.prog.types.size)))&&((jc.ifacesOut==Tryz.f3.resultTypes.toList.any (Tryz.pinned.checked.prog.ifacesRec ·)))&&((jc.loopsOut==Tryz.f3.resultTypes.toList.any (Tryz.pinned.checked.prog.loopsFrom ·)))&&((jc.plainKeys==Tryz.pinned.checked.prog.plainKeys))&&(jc.shortTexts.isNone)&&(Tryz.pinned.checked.prog.stopsHeard)&&(Tryz.pinned.checked.prog.mayEnter)&&((jc.lifted==Tryz.pinned.checked.prog.liftsFinal))&&((Tryz.pinned.checked.prog.make==some jc.make))&&((jc.kinds==(if jc.domain.isEmpty then [] else Tryz.f3.params.toList.map fun t=>match Tryz.pinned.checked.prog.underlying t with|some (.int k)=>some k|_=>none)))&&((jc.pinned==jc.pinnedBy))&&((jc.veiled==(Tryz.f3.params.toList++js.plain.varTypes Tryz.pinned.checked.prog++Tryz.f3.resultTypes.toList).any (Tryz.pinned.checked.prog.veiledRec ·)))&&(jc.veiledFits Tryz.pinned.checked.prog Tryz.f3.params.toList (Tryz.f3.params.toList++js.plain.varTypes Tryz.pinned.checked.prog++Tryz.f3.resultTypes.toList)))=true:=kR
set_option maxRecDepth 100000 in
theorem qC:joinedFacts Tryz.pinned.checked.prog 3 Tryz.f3 (OpenSpec.ofChange Rows.inferFirstsSpec).bare Rows.inferFirstsRow=true:=(jT (jT (jT (jT (jT (jT (jT (jT (jT (jT (jT (jT (jT (jT (jT (jT (jT (jT (jT (jT (jT (jT (jT (jT (jT (jT (jT (jT (jT (jT (jT (jL (jL (jL (jL (jL (jL (jL (jL j0)))))))) (jR (jL (jL (jL (jL (jL (jL (jL j0))))))))) (jR (jL (jL (jL (jL (jL (jL j0)))))))) (jR (jL (jL (jL (jL (jL j0))))))) (jR (jL (jL (jL (jL j0)))))) (jR (jL (jL (jL j0))))) (jR (jL (jL j0)))) (jR (jL j0))) (jR j0)) (jL (jL (jL j1)))) (jR (jL (jL j1)))) (jR (jL j1))) (jR j1)) (jL (jL (jL (jL (jL j2)))))) (jR (jL (jL (jL (jL j2)))))) (jR (jL (jL (jL j2))))) (jR (jL (jL j2)))) (jR (jL j2))) (jR j2)) (jL (jL (jL (jL (jL (jL (jL (jL (jL (jL (jL (jL j3))))))))))))) (jR (jL (jL (jL (jL (jL (jL (jL (jL (jL (jL (jL j3))))))))))))) (jR (jL (jL (jL (jL (jL (jL (jL (jL (jL (jL j3)))))))))))) (jR (jL (jL (jL (jL (jL (jL (jL (jL (jL j3))))))))))) (jR (jL (jL (jL (jL (jL (jL (jL (jL j3)))))))))) (jR (jL (jL (jL (jL (jL (jL (jL j3))))))))) (jR (jL (jL (jL (jL (jL (jL j3)))))))) (jR (jL (jL (jL (jL (jL j3))))))) (jR (jL (jL (jL (jL j3)))))) (jR (jL (jL (jL j3))))) (jR (jL (jL j3)))) (jR (jL j3))) (jR j3))
theorem said:Rows.InferFirstsSaid :=
 OpenClaim.holds_of_cond 3 Tryz.f3 rfl rfl rfl rfl rfl rfl rfl ⟨rfl,rfl,rfl,rfl,rfl⟩ rfl rfl rfl rfl rfl kR Tryz.func3 qC
   (of_decide_eq_true kR) (by unfold Func.isWrapper;first|(rw[if_pos (by decide +kernel)];kernel_rfl)|(rw[if_neg (by decide +kernel)];exact⟨rfl,rfl⟩))
   (fun os started H enc _ F=>by rw[OpenClaim.pre_eq_preRow];exact lifted os started H enc F)
theorem plain(f:FuncId)(fn:Func)(hf:Tryz.pinned.checked.prog.funcNamed Rows.inferFirstsRow.func=some f)(hfn:Tryz.pinned.checked.prog.funcs[f]?=some fn) :
   true=Tryz.pinned.checked.prog.looks []∧∀(j:Nat) t,fn.params[j]?=some t→Tryz.pinned.checked.prog.wantsStandIn t=false:=by
 obtain rfl:f=3:=Option.some.inj ((show Tryz.prog.funcNamed Rows.inferFirstsRow.func=some 3 by kernel_rfl).symm.trans hf) |>.symm
 obtain rfl:fn=Tryz.f3:=(Option.some.inj (Tryz.func3.symm.trans hfn)).symm
 refine⟨kR,fun j t ht=>?_⟩
 rw[Tryz.params3] at ht
 have hm:=Array.mem_of_getElem? ht
 have ht2:t=9∨t=3:=by simpa using hm
 rcases ht2 with rfl|rfl
 · exact (show Tryz.prog.wantsStandIn 9=false by kernel_rfl)
 · exact (show Tryz.prog.wantsStandIn 3=false by kernel_rfl)
end Go.Proofs.YthofplgbhecdcaaGreatDoor.Firsts
namespace Go.Proofs.YthofplgbhecdcaaGreatDoor
theorem firsts_card:Rows.InferFirstsCardSaid :=
 Claim7.holds_tied_plain_at .later [] _ _ _ _ Firsts.said (fun _ h=>by cases h) kR (fun _ h=>by cases h) inferFirsts_row_tie rfl ⟨rfl,rfl⟩ kR rfl Firsts.plain kR
end Go.Proofs.YthofplgbhecdcaaGreatDoor
