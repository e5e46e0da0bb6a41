/- InferChains: of every list of numbers the law answers true: the chain of functions that the numbers tell has the type of its ends if it fits, and none if it does not. -/
import Derived.Test.YtegedalegfadgaaGreatDoorGc6
import Derived.Test.YtegedalegfadgaaGreatDoorCards
import Derived.Test.YtegedalegfadgaaGreatDoorTie
import Derived.OpenShut
import Derived.Lib.LaidU8
import Derived.Clock
import Derived.ProofKit
import Derived.Lay
import Derived.Stop.Joined
import Derived.Deep.DeepHandedRow
import Derived.ChangeSlices
import Derived.ChangeMaps5
set_option linter.unusedVariables false
set_option linter.unusedSimpArgs false
namespace Go.Proofs.YtegedalegfadgaaGreatDoor
open Go.SW Go.SP Go.RowKit Go.Proofs.Tryz
def uN:Eh:=⟨[(55,0,0),(65,3,3),(55,2,3),(55,1,1),(55,4,5),(32,1,1)],[(34,55,6),(53,57,4),(24,32,2)],[],[],[(55,true,6),(3,false,1),(9,false,1),(26,true,2),(34,false,1),(57,true,4),(24,false,1),(27,false,1)],[(24,[.slice none 0 0]),(26,[.int .i64 0,.int .i64 0]),(27,[.int .i64 0]),(55,[.int .i64 0,.int .i64 0,.int .i64 0,.string ⟨#[]⟩,.int .i64 0,.slice none 0 0]),(57,[.int .i64 0,.int .i64 0,.string ⟨#[]⟩,.slice none 0 0]),(32,[.string ⟨#[]⟩,.string ⟨#[]⟩])],[(32,[(0,1),(1,1)]),(26,[(0,1),(1,1)])],[]⟩
theorem AV:uN.Ok prog:=⟨(And.intro IM (And.intro dG (And.intro GW (And.intro GS (And.intro Gi (And.intro PU tQ)))))),(And.intro FF (And.intro DT (And.intro Z1 tQ))),tQ,tQ,(And.intro Bh (And.intro Dd (And.intro GX (And.intro Db (And.intro EK (And.intro AI (And.intro Wf (And.intro H3 tQ)))))))),(And.intro pP (And.intro VO (And.intro fR (And.intro GJ (And.intro DN (And.intro rH tQ)))))),(And.intro qM (And.intro Zn tQ)),tQ⟩
theorem Zi:∀i,i≤8→DZ (⟨[],0,X7 i,[],[],-1⟩:CS)
 |0,_=>⟨tQ,λ_ _ h=>(by cases h),tQ,tQ,tQ,Int.le_refl _⟩
 |i+1,h=>by
  obtain⟨⟨nm,dt,nu,ar⟩,hx⟩:∃v,Iy[i]?=some v:=⟨_,List.getElem?_eq_getElem (l:=Iy) (by have:Iy.length=8:=rfl;omega)⟩;have har:=Sw hx;rw[Ol hx];exact (Zi i oM).addCons (Od i oM _ hx) ⟨by rw[LO];dsimp only;omega,Ow _,Dj (SJ hx),Nat.zero_le _⟩
theorem uO:DZ OE:=Zi 8 (Nat.le_refl _)
theorem rI:Gt La:=by
 rw[← RC];intro b hb;unfold H9 at hb;rw[List.take_length,List.mem_reverse] at hb;obtain⟨p,hp,rfl⟩:=List.mem_map.1 hb;exact⟨JX (GO (B9 _)) (N1 p hp),by dsimp only[Qz];decide⟩
theorem W5(w:World)(f:Fq)(hv:Vl w f)(tx:lU)(t:T1)(b:Nat)(hT:Ah w f t.one (some ⟨b,0,none⟩) 1) :
  BC prog 20 #[S tx,.slice (some ⟨b,0,none⟩) 1 1] w (BW (α:=Option Addr×Nat) (λx=>tV (.con tx t.one) x.1 x.2) (λ_=>True) (λx=>[λw f=>Ah w f t.one x.1 x.2]) w f):=by
 have hl:t.one.len=1:=by cases t <;> rfl
 have h:=Dc w f hv tx t.one (some ⟨b,0,none⟩) 1 (by rw[hl];decide) hT;rwa[hl] at h
variable {σ:Br}{f f':Fq}{fn:Func}{a:Option Addr}{v2 v4 x3 y3:Value}{w w':World}
theorem MG{nds:Nd}{b2 b3 b4:Nat}(hn:b2≠b3∧b2≠b4∧b3≠b4)(hr:fn.results=#[.cell 2 24,.cell 3 26,.cell 4 27])(h2:σ 2=some (.pointer (some ⟨b2,0,none⟩)))(h3:σ 3=some (.pointer (some ⟨b3,0,none⟩)))(h4:σ 4=some (.pointer (some ⟨b4,0,none⟩))){er:Er}(hm:DQ nds=.error er)(hE:CR (λ_=>False) w f w' f')
  (k2:AT w' b2 [v2] 24∧f' b2=0∧(true=true→w.heap.size≤b2)) (k3:AT w' b3 [x3,y3] 26∧f' b3=0∧(true=true→w.heap.size≤b3)) (k4:AT w' b4 [v4] 27∧f' b4=0∧(true=true→w.heap.size≤b4))
  (tmps:Array Value) (ht:∀t,t∈[2,3,4]→∀v,σ t=some v→tmps.getD t undef=v):Leaves prog fn tmps (λe w'=>∃v,e=.returned v∧WB nds w f v w') [{target:=.fn (.func 13) ([.pointer (some ⟨b2,0,none⟩),.pointer (some ⟨b3,0,none⟩),.pointer (some ⟨b4,0,none⟩)]:List Value).toArray,args:=#[]}] (.panicking (trI 48 er)) w':=by
 refine FW (by simp) XG (Us w' f' hE.val b2 b3 b4 v2 x3 y3 v4 k2.1 k3.1 k4.1 ⟨k2.2.1,k3.2.1,k4.2.1⟩ hn er) λwz hz=>?_;rw[KV];obtain⟨f3,e3,z2,z3,z4⟩:=hz;refine Cb (σ:=AL (E2 2 (.pointer (some ⟨b2,0,none⟩)) 3 (.pointer (some ⟨b3,0,none⟩))) 4 (.pointer (some ⟨b4,0,none⟩))) (λt v hv=>?_) (EC hr (B3 rfl Wf z2 rfl) (Ac rfl Db z3 rfl) (B3 rfl H3 z4 rfl)) ⟨_,rfl,f3,CR.trans0 hE e3 (λb hb=>?_),by rw[hm]⟩
 ·
  by_cases e4:t=4
  · subst e4;exact ht 4 (by simp) v (h4.trans hv)
  by_cases e5:t=3
  · subst e5;exact ht 3 (by simp) v (h3.trans hv)
  by_cases e2:t=2
  · subst e2;exact ht 2 (by simp) v (h2.trans hv)
  have n4:Nat.beq t 4=false:=by cases h:Nat.beq t 4 with|false=>rfl|true=>exact absurd (Nat.eq_of_beq_eq_true h) e4
  have n3:Nat.beq t 3=false:=by cases h:Nat.beq t 3 with|false=>rfl|true=>exact absurd (Nat.eq_of_beq_eq_true h) e5
  have n2:Nat.beq t 2=false:=by cases h:Nat.beq t 2 with|false=>rfl|true=>exact absurd (Nat.eq_of_beq_eq_true h) e2
  simp[AL,Go.SW.e0,n2,n3,n4] at hv
 ·
  rcases hb with rfl|rfl|rfl
  · exact k2.2.2 rfl
  · exact k3.2.2 rfl
  · exact k4.2.2 rfl
theorem pE{nds:Nd}{b2 b3 b4:Nat}(hr:fn.results=#[.cell 2 24,.cell 3 26,.cell 4 27])(h2:σ 2=some (.pointer (some ⟨b2,0,none⟩)))(h3:σ 3=some (.pointer (some ⟨b3,0,none⟩)))(h4:σ 4=some (.pointer (some ⟨b4,0,none⟩))){bs:List (lU×lU)}(hm:DQ nds=.ok bs)(hE:CR (λ_=>False) w f w' f'){c:Nat}(hB:O1 w' f' bs a c)
  (k2:AT w' b2 [.slice a bs.length c] 24) (k3:AT w' b3 [.int .i64 0,.int .i64 0] 26) (k4:AT w' b4 [.int .i64 0] 27)
  (tmps:Array Value) (ht:∀t v,σ t=some v→tmps.getD t undef=v):Leaves prog fn tmps (λe w'=>∃v,e=.returned v∧WB nds w f v w') [{target:=.fn (.func 13) ([.pointer (some ⟨b2,0,none⟩),.pointer (some ⟨b3,0,none⟩),.pointer (some ⟨b4,0,none⟩)]:List Value).toArray,args:=#[]}] .returning w':=by
 refine FW (by simp) XG (Ss w' b2 b3 b4) λwz hz=>?_;have e3:=CR.of_ext hz hE.val;refine Cb ht (EC hr (B3 h2 Wf (k2.ext hz) rfl) (Ac h3 Db (k3.ext hz) rfl) (B3 h4 H3 (k4.ext hz) rfl)) ⟨_,rfl,f',CR.trans0 hE e3 (λb hb=>hb.elim),?_⟩;rw[hm];exact⟨a,c,rfl,O1.mono _ _ _ _ hB (e3.fle hE.val (λ_ h=>h.elim))⟩
set_option maxHeartbeats 2000000 in
theorem Ue(w:World)(f:Fq)(hv:Vl w f)(hG:FA w f)(nds:Nd)(na:Option Addr)(nc:Nat)(hwt:nds.wft)(hsz:nds.size≤200000)(htb:nds.txb)(hN:AK w f nds na nc) :
  BC prog 7 #[.slice na nds.len nc] w (WB nds w f):=by
 have hkl0:=Nd.len_le nds;refine lJ (K:=[2,3,4]) (X:=X0 w f) (H:=[]) (R:=[]) (B:=[]) (Fs:=[λw f=>AK w f nds na nc,λw f=>FA w f]) (f:=f) func7 rfl rfl rfl (C8 hv ⟨hN,hG,tQ⟩ ⟨AK.mono,FA.mono,tQ⟩)<|go AV 8 [] (λb1=>λb2=>λb3=>λ_=>KA (p:=b1≠b2∧b1≠b3∧b2≠b3) (λw f hM=>by have h9:=hM.nd;simp[CZ] at h9;exact⟨λe=>h9.2 e.symm,λe=>h9.1.2 e.symm,λe=>h9.1.1 e.symm⟩) λhn=>go AV 1 [] (λ_=>EU rfl rfl (λw f hM=>TQ rfl)<|vU rfl rfl<|go AV 4 [] (λ_=>cW (XX:=λ_ _=>False) rfl rfl (eC nB rfl rfl) (λw f hM=>(TR w f hM.vl hM.f1).retP) (λ_=>Au.stab) (λ_=>⟨AQ.mono,tQ⟩) (λ_ _ _ _ _ h=>h.elim) ?_)));rintro⟨A,ea⟩ hA;dsimp only at hA ⊢;refine go AV 21 [] (λ_=>Rd 32 2<|Rd 57 4 ?_);refine HK (α:=Nat×Nd×List (lU×T1)×List Value×Option Addr×Nat×Option Addr×Nat×Bt×Option Addr×CS) (λx=>x.2.1.len) (λx=>x.1+x.2.1.len=nds.len∧Gr OE La nds []=Gr x.2.2.2.2.2.2.2.2.2.2 x.2.2.2.2.2.2.2.2.1 x.2.1 x.2.2.1∧x.2.2.1.length≤x.1∧(FY x.2.2.1).bnd∧Gt x.2.2.2.2.2.2.2.2.1∧x.2.1.wft∧x.2.1.txb∧DZ x.2.2.2.2.2.2.2.2.2.2∧x.2.1.size≤nds.size∧x.2.2.2.2.2.2.2.2.2.2.fresh+200002*x.2.1.size≤200002*nds.size∧x.2.1.size-(nds.size:Int)-1≤x.2.2.2.2.2.2.2.2.2.2.vars∧x.2.2.2.2.2.2.2.2.2.2.vars≤0) (λx=>(E9 2 (.pointer (some ⟨b1,0,none⟩)) 3 (.pointer (some ⟨b2,0,none⟩)) 4 (.pointer (some ⟨b3,0,none⟩)) 5 (.pointer (some ⟨A.cb,0,none⟩)) 6 (.pointer x.2.2.2.2.2.2.2.2.2.1) 7 (.slice x.2.2.2.2.1 x.2.2.1.length x.2.2.2.2.2.1) 19 (.slice na nds.len nc) 20 (.int .i64 (nds.len:Int)) 21 (.int .i64 (x.1:Int)))) (λx=>⟨λ_=>False,BE A,Au 65 130 A x.2.2.2.2.2.2.2.2.2.2,w,f⟩) (λx=>[⟨b3,[.int .i64 0],27,true⟩,⟨b2,[.int .i64 0,.int .i64 0],26,true⟩,⟨b1,[.slice x.2.2.2.2.2.2.1 x.2.2.1.length x.2.2.2.2.2.2.2.1],24,true⟩]) (λx=>[⟨57,4,x.2.2.2.2.1,x.2.2.2.2.2.1,x.2.2.1.length,x.2.2.2.1⟩,⟨32,2,x.2.2.2.2.2.2.1,x.2.2.2.2.2.2.2.1,x.2.2.1.length,bC (UH x.2.2.1)⟩]) (λx=>[]) (λx=>[λw f=>A0 w f na x.1 x.2.1,λw f=>Bo w f (FY x.2.2.1) x.2.2.2.1,λw f=>AQ w f x.2.2.2.2.2.2.2.2.1 x.2.2.2.2.2.2.2.2.2.1,λw f=>FA w f]) (0,nds,[],[],none,0,none,0,La,ea,OE) ⟨Nat.zero_add _,rfl,Nat.le_refl _,tQ,rI,hwt,htb,uO,Nat.le_refl _,by dsimp only[OE];omega,by dsimp only[OE];omega,(by decide:(-1:Int)≤0)⟩ lE (λw f hM=>hM.more (B':=[]) (F':=[λw f=>A0 w f na 0 nds,λw f=>Bo w f .nil []]) nE (A2.mem ⟨AK.at hM.f1,rfl,tQ⟩) (Af.mem ⟨A0.mono,Bo.mono,tQ⟩) |>.less sR sR nE (mR [0,1,2,4])) ?_;rintro⟨i,r,out,txs,ta,tc,oa,oc,e,ea,s⟩ ⟨hi,hti,hol,htyb,heB,hwt2,htx,hw,hrs,hfr,hv1,hv2⟩;dsimp only at hi hti hol htyb heB hwt2 htx hw hrs hfr hv1 hv2 ⊢;refine go AV 6 [] (λ_=>Ba 22 rfl rfl (λh1=>?_) (λh1=>?_));refine go AV 6 [] (λ_=>?_);have hil:i<nds.len:=by have:=of_decide_eq_true h1;omega
 obtain⟨op2,ln2,co2,tx2,nm2,k2,r,rfl⟩:=Nd.cases1 r oM;have hi2:i+(r.len+1)=nds.len:=hi;obtain⟨htx2,hkx2,hrx2⟩:=htx;have hrs2:k2.size+r.size+1≤nds.size:=hrs;have hfr2:s.fresh+200002*((k2.size+r.size+1:Nat):Int)≤200002*nds.size:=hfr;have hv3:((k2.size+r.size+1:Nat):Int)-nds.size-1≤s.vars:=hv1;have hkl:=Nd.len_le k2;have hfr0:=hw.fr;refine C6 (α:=Nat×Nat×Option Addr×Nat) (λx=>na=some ⟨x.1,x.2.1,none⟩) (λx=>[⟨x.1,x.2.1+i*6,FI op2 ln2 co2 tx2 nm2 x.2.2.1 k2.len x.2.2.2⟩]) (λx=>[λw f=>AK w f k2 x.2.2.1 x.2.2.2,λw f=>A0 w f na (i+1) r]) (λw f hM=>let ⟨b,off,ka,kc,h1,h2,h3,h4⟩:=A0.head hM.f0;⟨(b,off,ka,kc),h1,(oE h2),A2.mem ⟨h3,h4,tQ⟩⟩) (λx=>Af.mem ⟨AK.mono,A0.mono,tQ⟩) ?_;rintro⟨eb,eo,ka,kc⟩ rfl;refine go AV 26 [100,0,0,1] (And.intro oM<|y2<|λb4=>y<|λb5=>y<|λ_=>Ba 27 rfl rfl (λh2=>?_) (λh2=>?_));refine go AV 5 [1] (y<|λ_=>XE rfl rfl (eC kC rfl rfl) (λ_ h=>h) (λw f hM=>Xc w f hM.vl A hA s hM.res hM.mz hw hM.f5 op2 ln2 co2 nm2 tx2 k2 ka kc oM htx2 hkx2 hM.f0 oM hv2) (λ_=>Au.stab) (λ_=>trivial) (λer w2 f2 he hE hH=>MG hn rfl rfl rfl rfl (Gh (hti.trans (DY (UO h2 he)))) hE (hH _ YO) (hH _ Vn) (hH _ V3)) ?_);rintro s5 ⟨hda,hw5,hfr5,hvv5,hvw5⟩;dsimp only at hda hw5 hfr5 hvv5 hvw5 ⊢;exact go AV 11 [] (And.intro ⟨oM,oM⟩<|λ_=>DM ((i+1,r,out,txs,ta,tc,oa,oc,e,ea,s5)) (show r.len<r.len+1 from Nat.lt_succ_self _) ⟨show i+1+r.len=_ by omega,hti.trans (TK (WW h2 hda)),show out.length≤i+1 by omega,htyb,heB,hwt2.2,hrx2,hw5,show r.size≤_ by omega,show s5.fresh+200002*(r.size:Int)≤_ by omega,show (r.size:Int)-nds.size-1≤s5.vars by omega,show s5.vars≤0 by omega⟩ lE (λw f hM=>⟨_,hM.less (sD (sD (sK (sK (sK sZ))))) sR nE (mR [1,3,4,5])⟩));refine go AV 7 [] (λ_=>Ba 32 rfl rfl (λh3=>?_) (λh3=>?_));refine go AV 2 [] (λ_=>?_);have hwk:k2.wfm 2:=by rcases hwt2.1 with h9|⟨h9,h8⟩|⟨h9,h8⟩ <;> first|exact h8|(exfalso;have:=beq_iff_eq.1 h3;omega)
 obtain⟨op3,ln3,co3,tx3,nm3,k3,r3,hkk⟩:=CM hwk dC;have hwk2:r3.wfm 3:=by have h9:=hwk;rw[hkk] at h9;exact h9
 obtain⟨op4,ln4,co4,tx4,nm4,k4,r4,rfl⟩:=CM hwk2 dC;rw[WU] at hwk2;have hks2:(Nd.cons op4 ln4 co4 tx4 nm4 k4 r4).size=k4.size+r4.size+1:=rfl;have hkl3:(Nd.cons op4 ln4 co4 tx4 nm4 k4 r4).len=r4.len+1:=rfl;have hkx3:tx3.length≤100000∧k3.txb:=by have h9:=hkx2;rw[hkk] at h9;exact⟨h9.1,h9.2.1⟩
 have hks:k2.size=k3.size+(Nd.cons op4 ln4 co4 tx4 nm4 k4 r4).size+1:=by rw[hkk];rfl
 have hkl2:k2.len=(Nd.cons op4 ln4 co4 tx4 nm4 k4 r4).len+1:=by rw[hkk];rfl
 refine B5 (λw f=>A0 w f ka 0 (.cons op3 ln3 co3 tx3 nm3 k3 (Nd.cons op4 ln4 co4 tx4 nm4 k4 r4))) (λw f hM=>by rw[← hkk];exact AK.at hM.f0) A0.mono<|C6 (α:=Nat×Nat×Option Addr×Nat) (λx=>ka=some ⟨x.1,x.2.1,none⟩) (λx=>[⟨x.1,x.2.1+0*6,FI op3 ln3 co3 tx3 nm3 x.2.2.1 k3.len x.2.2.2⟩]) (λx=>[λw f=>AK w f k3 x.2.2.1 x.2.2.2,λw f=>A0 w f ka 1 (Nd.cons op4 ln4 co4 tx4 nm4 k4 r4)]) (λw f hM=>let ⟨b,off,ka,kc,h1,h2,h3,h4⟩:=A0.head hM.f0;⟨(b,off,ka,kc),h1,(oE h2),A2.mem ⟨h3,h4,tQ⟩⟩) (λx=>Af.mem ⟨AK.mono,A0.mono,tQ⟩) ?_;rintro⟨eb3,eo3,ka3,kc3⟩ rfl;refine C6 (α:=Nat×Nat×Option Addr×Nat) (λx=>(some (⟨eb3,eo3,none⟩:Addr))=some ⟨x.1,x.2.1,none⟩) (λx=>[⟨x.1,x.2.1+1*6,FI op4 ln4 co4 tx4 nm4 x.2.2.1 k4.len x.2.2.2⟩]) (λx=>[λw f=>AK w f k4 x.2.2.1 x.2.2.2,λw f=>A0 w f (some (⟨eb3,eo3,none⟩:Addr)) 2 r4]) (λw f hM=>let ⟨b,off,ka,kc,h1,h2,h3,h4⟩:=A0.head hM.f1;⟨(b,off,ka,kc),h1,(oE h2),A2.mem ⟨h3,h4,tQ⟩⟩) (λx=>Af.mem ⟨AK.mono,A0.mono,tQ⟩) ?_;rintro⟨eb4,eo4,ka4,kc4⟩ h44;obtain⟨rfl,rfl⟩:eb3=eb4∧eo3=eo4:=by cases h44;exact⟨rfl,rfl⟩
 refine Xu [2,3,4] (λw=>AT w A.cb [.pointer (some ⟨A.sb,0,none⟩),.map (some A.km),.map (some A.dm),.map (some A.rm),.int .i64 s.vars] 65∧Cm CG w A.rm (s.roots.map λk=>(k,.bool true))) (λw f h _=>⟨h.blk,h.roots⟩) [0,1,2,3,4] Ap (rd [0,1,2,3,4,5,6,7,8,9] (.br 10 .fin .fin)) rfl kR kR kR rfl Fu<|AA AV 3 [] (λ_=>Ik rfl rfl rfl (λw hK=>Al rfl gE hK.2.2.1 rfl)<|AA AV 2 [1] (y<|λ_=>Ik rfl rfl rfl (λw hK=>NZ (K:=CG) (a:=tx2) rfl rfl VH Ii dB hK.2.2.2 hw.dr (Sq s.roots))<|AA AV 3 [1] (y<|λ_=>Ag rfl ?_ Aj)));refine XE (α:=Unit) (val:=λ_=>.tuple #[]) (q:=λ_=>(!s.roots.contains tx2)=true) (I':=λ_=>Au 65 130 A s) (F':=λ_=>[]) (pe:=λer=>(!s.roots.contains tx2)=false∧er=(ln2,co2,11)) (M:=λ_=>False) (T:=48) rfl rfl (eC EZ rfl rfl) (λ_ h=>h.elim) (λw f hM=>(Cy w f hM.vl (!s.roots.contains tx2) ln2 co2).mono (λ_ _ ⟨x,f2,h1,h2,h3,h4⟩=>⟨x,f2,h1,h2,h3.mono (λ_ h=>h.elim),(hM.call0 h3).res,h4⟩) λ_ _ h=>h) (λ_=>Au.stab) (λ_=>trivial) (λer w2 f2 he hE hH=>MG hn rfl rfl rfl rfl (Gh (hti.trans (DY (by obtain⟨h9,rfl⟩:=he;rw[hkk];exact TY h3 (Gs h9))))) hE (hH _ YO) (hH _ Vn) (hH _ V3)) ?_;rintro⟨⟩ hnd;replace hnd:s.roots.contains tx2=false:=Gg hnd;refine go AV 1 [] (λ_=>Bj [0,1,2,3,4] (λw f h _=>⟨h.blk,h.roots⟩) rfl (λ_ h=>h)<|B4<|go AV 2 [] (λ_=>Xu [2,3,4] (λw=>AT w A.cb [.pointer (some ⟨A.sb,0,none⟩),.map (some A.km),.map (some A.dm),.map (some A.rm),.int .i64 s.vars] 65) (λw f h _=>h.blk) [0,1,2,3,4] Ap (rd [0,1,2,3,4,5] (.br 6 .fin .fin)) rfl kR kR kR rfl Fu<|AA AV 3 [] (λ_=>Ik rfl rfl rfl (λw hK=>Al rfl gE hK.2.2 rfl)<|AA AV 2 [1] (y<|λ_=>Ag rfl ?_ Aj))));refine qH (a:=tx2) hA hw rfl rfl rfl rfl VH Ii hnd ?_;have hwr:=hw.addRoot hnd;refine go AV 1 [] (λ_=>Bj [0,1,2,3,4] (λw f h _=>h.blk) rfl (λ_ h=>h)<|B4<|go AV 8 [1,101,0] (y<|And.intro oM<|y2<|λ_=>XE (α:=T1×Option Addr×Nat) (val:=λx=>tV x.1 x.2.1 x.2.2) (q:=λx=>Dz s.datas [] op3 ln3 co3 tx3 k3=.ok x.1∧x.1.bnd) (I':=λ_=>Au 65 130 A ({s with roots:=tx2::s.roots}:CS)) (F':=λx=>[λw f=>Ah w f x.1.kids x.2.1 x.2.2]) (pe:=λer=>Dz s.datas [] op3 ln3 co3 tx3 k3=.error er) (M:=λ_=>False) (T:=48) rfl rfl (eC NL rfl rfl) (λ_ h=>h.elim) (λw f hM=>(LG (k3.size+1) w f hM.vl A ({s with roots:=tx2::s.roots}:CS) hM.res hwr hM.f10 op3 ln3 co3 nm3 tx3 k3 ka3 kc3 (.map none) [] (Nat.lt_succ_self _) oM hkx3.1 hkx3.2 (.inl ⟨rfl,rfl⟩) hM.f2).mono (λ_ _ ⟨x,f2,h1,h2,h3,h4⟩=>⟨x,f2,h1,h2,h3.mono (λ_ h=>h.elim),(hM.call0 h3).res,h4⟩) λ_ _ h=>h) (λ_=>Au.stab) (λ_=>⟨Ah.mono,tQ⟩) (λer w2 f2 he hE hH=>MG hn rfl rfl rfl rfl (Gh (hti.trans (DY (by rw[hkk];exact Ux h3 hnd he)))) hE (hH _ YO) (hH _ Vn) (hH _ V3)) ?_));rintro⟨q5,qa,qc⟩ ⟨hp5,hqb⟩;dsimp only at hp5 hqb ⊢;refine go AV 5 [0] (λb6=>y<|λ_=>Xu [2,3,4] (λ_=>True) Fy [0,1,2,3,4,5] Ap (rd [0,1,2,3,4,5,6,7,9,10] (.br 8 (.br 11 .fin .fin) .fin)) rfl kR kR kR rfl Fu<|AA AV 10 [0,2,100,0,2] (y<|y<|And.intro oM<|y2<|y<|λ_=>Ag rfl ?_ Aj))
 refine XE rfl rfl (eC CY rfl rfl) (λ_ h=>h) (λw f hM=>JF (k4.size+1) w f hM.vl A hA ({s with roots:=tx2::s.roots}:CS) hM.res hM.mz hwr op4 ln4 co4 nm4 tx4 k4 ka4 kc4 e ea (Nat.lt_succ_self _) oM hwk2 hM.f1 heB hM.f10 (by first|omega|(dsimp only;omega))) (λ_=>Au.stab) (λ_=>⟨Ah.mono,tQ⟩) (λer w2 f2 he hE hH=>MG hn rfl rfl rfl rfl (Gh (hti.trans (DY (by rw[hkk];exact Ut h3 hnd hp5 he)))) hE (hH _ sN) (hH _ YO) (hH _ Vn)) ?_;rintro⟨⟨t6,t6a,t6c⟩,s6⟩ ⟨hp6,htb6,hw6,hf6⟩;dsimp only at hp6 htb6 hw6 hf6 ⊢;have hfm6:=LA Ks _ hp6;have hvv6:s6.vars=s.vars:=hfm6.2.2.2;refine go AV 1 [] (λ_=>Ax [0,1,2,3,4,5] rfl<|Ag rfl ?_ Aj);refine XE rfl rfl (eC G8 rfl rfl) (λ_ h=>h) (λw f hM=>Dr w f hM.vl A hA s6 hM.res hM.mz hw6 q5 t6 qa qc t6a t6c hqb htb6 hM.f1 hM.f0 ln2 co2) (λ_=>Au.stab) (λ_=>trivial) (λer w2 f2 he hE hH=>MG hn rfl rfl rfl rfl (Gh (hti.trans (DY (by rw[hkk];exact UD h3 hnd hp5 hp6 he)))) hE (hH _ sN) (hH _ YO) (hH _ Vn)) ?_;rintro s7 ⟨hh7,hw7,hf7⟩;have hvv7:s7.vars=s.vars:=(Ks.has hh7).2.2.2.trans hvv6;refine go AV 1 [] (λ_=>Ax [0,1,2,3,4,5] rfl<|B4<|go AV 5 [0] (y<|λb7=>λ_=>Dn 0 rfl rfl<|BA (α:=Option Addr×Nat) rfl rfl (eC B6 rfl rfl) (λw f hM=>W5 w f hM.vl Du q5 b7 (Ds (l:=[(q5,qa,qc)]) ⟨hM.f1,tQ⟩ hM.b0)) (λ_=>⟨Ah.mono,tQ⟩) ?_));rintro⟨ua,uc⟩ -;refine go AV 11 [1,2,1,2] (y<|y<|y<|y<|λ_=>?_);have hub:(T1.con Du q5.one).bnd:=D7 dC (by rw[T1.one,T1.len_cons];simp only[Ty.len];omega) (GO hqb);refine XE rfl rfl (eC IW rfl rfl) (λ_ h=>h) (λw f hM=>Et w f hM.vl A hA s7 hM.res hM.mz hw7 e ea heB hM.f12 tx2 (T1.con Du q5.one) ua uc hub hM.f0 false ln2 co2) (λ_=>Au.stab) (λ_=>⟨AQ.mono,tQ⟩) (λer w2 f2 he hE hH=>MG hn rfl rfl rfl rfl (by cases he) hE (hH _ sN) (hH _ YO) (hH _ Vn)) ?_;rintro⟨e7,ea7⟩ ⟨he7,heB7⟩;dsimp only at he7 heB7 ⊢;have hee:e7=⟨tx2,.con Du q5.one,[]⟩::e:=by cases he7;rfl
 subst hee;refine go AV 11 [5,2] (y<|y<|λb8=>λ_=>DR 1 0 rfl rfl VB rfl rfl rfl rfl rfl rfl rfl rfl (λ_ _=>rfl) oM oM λoa2 oc2=>go AV 7 [6,2] (y<|y<|λb9=>λ_=>DR 0 0 rfl rfl Dt rfl rfl rfl rfl rfl rfl rfl rfl (λ_ _=>rfl) oM oM λta2 GP=>go AV 8 [] (And.intro ⟨oM,oM⟩<|λ_=>?_)));exact DM ((i+1,r,(out++[(tx2,(T1.con Du q5.one))]),txs++tC (T1.con Du q5.one) ua uc,ta2,GP,oa2,oc2,(⟨tx2,.con Du q5.one,[]⟩::e),ea7,s7)) (show r.len<r.len+1 from Nat.lt_succ_self _) ⟨show i+1+r.len=_ by omega,hti.trans (Je (by rw[hkk];exact Wz h3 hnd hp5 hp6 hh7)),show (out++[(tx2,(T1.con Du q5.one))]).length≤i+1 by rw[List.length_append];simp;omega,show (FY (out++[(tx2,(T1.con Du q5.one))])).bnd by rw[E1];exact Ty.bnd_snoc htyb hub,heB7,hwt2.2,hrx2,hw7,show r.size≤_ by omega,show s7.fresh+200002*(r.size:Int)≤_ by omega,show (r.size:Int)-nds.size-1≤s7.vars by omega,show s7.vars≤0 by omega⟩ (fS rfl rfl rfl rfl rfl (Eq.trans (b:=some (Value.slice ta2 (out.length+1) GP)) rfl (by dsimp only;rw[List.length_append];rfl)) rfl rfl rfl) (λw f hM=>⟨_,by have hM9:=(hM.more (B':=[]) (F':=[λw f=>Bo w f (FY (out++[(tx2,(T1.con Du q5.one))])) (txs++tC (T1.con Du q5.one) ua uc)]) nE (A2.mem ⟨by rw[E1];exact Bo.snoc hM.f1 hM.f12,tQ⟩) (Af.mem ⟨Bo.mono,tQ⟩)).less (sD (sD (sD (sD (sD (sK (sK (sK sZ)))))))) sR (B':=[]) nE (F':=[λw f=>A0 w f (some ⟨eb,eo,none⟩) (i+1) r,λw f=>Bo w f (FY (out++[(tx2,(T1.con Du q5.one))])) (txs++tC (T1.con Du q5.one) ua uc),λw f=>AQ w f (⟨tx2,.con Du q5.one,[]⟩::e) ea7,λw f=>FA w f]) (mR [11,0,1,15]);dsimp only;rw[show (out++[(tx2,(T1.con Du q5.one))]).length=out.length+1 by rw[List.length_append];rfl,show bC (UH (out++[(tx2,(T1.con Du q5.one))]))=bC (UH out)++[S tx2,S []] by rw[UH,List.map_append,SP.bC_app];rfl];exact hM9⟩);refine go AV 7 [] (λ_=>Ba 80 rfl rfl (λh4=>?_) (λh4=>?_));refine go AV 2 [] (λ_=>?_);have hwk:k2.wfm 3:=by rcases hwt2.1 with h9|⟨h9,h8⟩|⟨h9,h8⟩ <;> first|exact h8|(exfalso;have:=beq_iff_eq.1 h4;omega)
 obtain⟨op3,ln3,co3,tx3,nm3,k3,r3,hkk⟩:=CM hwk dC;have hwk1:Hj op3 k3:=by have h9:=hwk;rw[hkk] at h9;exact h9
 have hks:k2.size=k3.size+r3.size+1:=by rw[hkk];rfl
 have hkl2:k2.len=r3.len+1:=by rw[hkk];rfl
 refine B5 (λw f=>A0 w f ka 0 (.cons op3 ln3 co3 tx3 nm3 k3 r3)) (λw f hM=>by rw[← hkk];exact AK.at hM.f0) A0.mono<|C6 (α:=Nat×Nat×Option Addr×Nat) (λx=>ka=some ⟨x.1,x.2.1,none⟩) (λx=>[⟨x.1,x.2.1+0*6,FI op3 ln3 co3 tx3 nm3 x.2.2.1 k3.len x.2.2.2⟩]) (λx=>[λw f=>AK w f k3 x.2.2.1 x.2.2.2,λw f=>A0 w f ka 1 r3]) (λw f hM=>let ⟨b,off,ka,kc,h1,h2,h3,h4⟩:=A0.head hM.f0;⟨(b,off,ka,kc),h1,(oE h2),A2.mem ⟨h3,h4,tQ⟩⟩) (λx=>Af.mem ⟨AK.mono,A0.mono,tQ⟩) ?_;rintro⟨eb3,eo3,ka3,kc3⟩ rfl;refine go AV 7 [1,100,0] (y<|And.intro oM<|y2<|λ_=>XE rfl rfl (eC CY rfl rfl) (λ_ h=>h) (λw f hM=>JF (k3.size+1) w f hM.vl A hA s hM.res hM.mz hw op3 ln3 co3 nm3 tx3 k3 ka3 kc3 e ea (Nat.lt_succ_self _) oM hwk1 hM.f0 heB hM.f7 (by first|omega|(dsimp only;omega))) (λ_=>Au.stab) (λ_=>⟨Ah.mono,tQ⟩) (λer w2 f2 he hE hH=>MG hn rfl rfl rfl rfl (Gh (hti.trans (DY (by rw[hkk];exact Xe h4 he)))) hE (hH _ YO) (hH _ Vn) (hH _ V3)) ?_);rintro⟨⟨t6,t6a,t6c⟩,s6⟩ ⟨hp6,htb6,hw6,hf6⟩;dsimp only at hp6 htb6 hw6 hf6 ⊢;have hfm6:=LA Ks _ hp6;have hvv6:s6.vars=s.vars:=hfm6.2.2.2;refine go AV 3 [0] (y<|λ_=>Xu [2,3,4] (λ_=>True) Fy [0,1,2,3,4] Ap (rd [0,1,2,3,4,5,6,7,8,10,11] (.br 9 (.br 12 (.rd 13 .fin) .fin) .fin)) rfl kR kR kR rfl Fu<|AA AV 11 [1,0,1,100,0,1] (y<|y<|y<|And.intro oM<|y2<|y<|λ_=>Ag rfl ?_ Aj));refine BA rfl rfl (eC Ul rfl rfl) (λw f hM=>KP (k3.size+1) w f hM.vl op3 ln3 co3 nm3 tx3 k3 ka3 kc3 (Nat.lt_succ_self _) oM hM.f1) (λx=>trivial) ?_;rintro⟨⟩ -;refine go AV 1 [] (λ_=>Ax [0,1,2,3,4] rfl<|Ag rfl ?_ Aj);refine XE rfl rfl (eC IW rfl rfl) (λ_ h=>h) (λw f hM=>Et w f hM.vl A hA s6 hM.res hM.mz hw6 e ea heB hM.f8 tx2 t6 t6a t6c htb6 hM.f0 (C0 (k3.size+1) op3 k3) ln2 co2) (λ_=>Au.stab) (λ_=>⟨AQ.mono,tQ⟩) (λer w2 f2 he hE hH=>MG hn rfl rfl rfl rfl (Gh (hti.trans (DY (by rw[hkk];exact Xq h4 hp6 he)))) hE (hH _ YO) (hH _ Vn) (hH _ V3)) ?_;rintro⟨e7,ea7⟩ ⟨he7,heB7⟩;dsimp only at he7 heB7 ⊢;refine go AV 1 [] (λ_=>Ax [0,1,2,3,4] rfl<|AA AV 1 [] (λ_=>B4<|go AV 9 [4,1] (y<|y<|λb10=>λ_=>DR 1 0 rfl rfl VB rfl rfl rfl rfl rfl rfl rfl rfl (λ_ _=>rfl) oM oM λoa2 oc2=>go AV 7 [5,1] (y<|y<|λb11=>λ_=>DR 0 0 rfl rfl Dt rfl rfl rfl rfl rfl rfl rfl rfl (λ_ _=>rfl) oM oM λta2 GP=>go AV 8 [] (And.intro ⟨oM,oM⟩<|λ_=>?_)))))
 exact DM ((i+1,r,(out++[(tx2,t6)]),txs++tC t6 t6a t6c,ta2,GP,oa2,oc2,e7,ea7,s6)) (show r.len<r.len+1 from Nat.lt_succ_self _) ⟨show i+1+r.len=_ by omega,hti.trans (Je (by rw[hkk];exact XY h4 hp6 he7)),show (out++[(tx2,t6)]).length≤i+1 by rw[List.length_append];simp;omega,show (FY (out++[(tx2,t6)])).bnd by rw[E1];exact Ty.bnd_snoc htyb htb6,heB7,hwt2.2,hrx2,hw6,show r.size≤_ by omega,show s6.fresh+200002*(r.size:Int)≤_ by omega,show (r.size:Int)-nds.size-1≤s6.vars by omega,show s6.vars≤0 by omega⟩ (fS rfl rfl rfl rfl rfl (Eq.trans (b:=some (Value.slice ta2 (out.length+1) GP)) rfl (by dsimp only;rw[List.length_append];rfl)) rfl rfl rfl) (λw f hM=>⟨_,by have hM9:=(hM.more (B':=[]) (F':=[λw f=>Bo w f (FY (out++[(tx2,t6)])) (txs++tC t6 t6a t6c)]) nE (A2.mem ⟨by rw[E1];exact Bo.snoc hM.f1 hM.f8,tQ⟩) (Af.mem ⟨Bo.mono,tQ⟩)).less (sD (sD (sD (sD (sK (sK (sK sZ))))))) sR (B':=[]) nE (F':=[λw f=>A0 w f (some ⟨eb,eo,none⟩) (i+1) r,λw f=>Bo w f (FY (out++[(tx2,t6)])) (txs++tC t6 t6a t6c),λw f=>AQ w f e7 ea7,λw f=>FA w f]) (mR [7,0,1,11]);dsimp only;rw[show (out++[(tx2,t6)]).length=out.length+1 by rw[List.length_append];rfl,show bC (UH (out++[(tx2,t6)]))=bC (UH out)++[S tx2,S []] by rw[UH,List.map_append,SP.bC_app];rfl];exact hM9⟩);refine go AV 7 [] (λ_=>Ba 102 rfl rfl (λh5=>?_) (λh5=>?_));refine go AV 2 [] (λ_=>?_);have hwk:k2.wfm 3:=by rcases hwt2.1 with h9|⟨h9,h8⟩|⟨h9,h8⟩ <;> first|exact h8|(exfalso;have:=beq_iff_eq.1 h5;omega)
 obtain⟨op3,ln3,co3,tx3,nm3,k3,r3,rfl⟩:=CM hwk dC;rw[WU] at hwk;have hks:(Nd.cons op3 ln3 co3 tx3 nm3 k3 r3).size=k3.size+r3.size+1:=rfl;refine go AV 4 [1] (y<|λ_=>XE rfl rfl (eC ZE rfl rfl) (λ_ h=>h) (λw f hM=>Th (k3.size+1) (JF (k3.size+1)) w f hM.vl A hA s hM.res hM.mz hw op2 ln2 co2 nm2 tx2 op3 ln3 co3 nm3 tx3 k3 r3 ka kc e ea (Nat.lt_succ_self _) oM hwk hM.f0 heB hM.f4 oM) (λ_=>Au.stab) (λ_=>⟨Ah.mono,tQ⟩) (λer w2 f2 he hE hH=>MG hn rfl rfl rfl rfl (Gh (hti.trans (DY (WM h5 he)))) hE (hH _ YO) (hH _ Vn) (hH _ V3)) ?_);rintro⟨⟨t6,t6a,t6c⟩,s6⟩ ⟨hp6,htb6,hw6,hf6⟩;dsimp only at hp6 htb6 hw6 hf6 ⊢;have hfm6:=Vq Ks (LA Ks _) hp6;have hvv6:s6.vars=s.vars:=hfm6.2.2.2;refine go AV 11 [0,1,0,1] (y<|y<|y<|y<|λ_=>XE rfl rfl (eC IW rfl rfl) (λ_ h=>h) (λw f hM=>Et w f hM.vl A hA s6 hM.res hM.mz hw6 e ea heB hM.f5 tx2 t6 t6a t6c htb6 hM.f0 true ln2 co2) (λ_=>Au.stab) (λ_=>⟨AQ.mono,tQ⟩) (λer w2 f2 he hE hH=>MG hn rfl rfl rfl rfl (Gh (hti.trans (DY (WZ h5 hp6 he)))) hE (hH _ YO) (hH _ Vn) (hH _ V3)) ?_);rintro⟨e7,ea7⟩ ⟨he7,heB7⟩;dsimp only at he7 heB7 ⊢;exact go AV 11 [4,1] (y<|y<|λb12=>λ_=>DR 1 0 rfl rfl VB rfl rfl rfl rfl rfl rfl rfl rfl (λ_ _=>rfl) oM oM λoa2 oc2=>go AV 7 [5,1] (y<|y<|λb13=>λ_=>DR 0 0 rfl rfl Dt rfl rfl rfl rfl rfl rfl rfl rfl (λ_ _=>rfl) oM oM λta2 GP=>go AV 8 [] (And.intro ⟨oM,oM⟩<|λ_=>DM ((i+1,r,(out++[(tx2,t6)]),txs++tC t6 t6a t6c,ta2,GP,oa2,oc2,e7,ea7,s6)) (show r.len<r.len+1 from Nat.lt_succ_self _) ⟨show i+1+r.len=_ by omega,hti.trans (Je (Zt h5 hp6 he7)),show (out++[(tx2,t6)]).length≤i+1 by rw[List.length_append];simp;omega,show (FY (out++[(tx2,t6)])).bnd by rw[E1];exact Ty.bnd_snoc htyb htb6,heB7,hwt2.2,hrx2,hw6,show r.size≤_ by omega,show s6.fresh+200002*(r.size:Int)≤_ by omega,show (r.size:Int)-nds.size-1≤s6.vars by omega,show s6.vars≤0 by omega⟩ (fS rfl rfl rfl rfl rfl (Eq.trans (b:=some (Value.slice ta2 (out.length+1) GP)) rfl (by dsimp only;rw[List.length_append];rfl)) rfl rfl rfl) (λw f hM=>⟨_,by have hM9:=(hM.more (B':=[]) (F':=[λw f=>Bo w f (FY (out++[(tx2,t6)])) (txs++tC t6 t6a t6c)]) nE (A2.mem ⟨by rw[E1];exact Bo.snoc hM.f1 hM.f5,tQ⟩) (Af.mem ⟨Bo.mono,tQ⟩)).less (sD (sD (sD (sD (sK (sK (sK sZ))))))) sR (B':=[]) nE (F':=[λw f=>A0 w f (some ⟨eb,eo,none⟩) (i+1) r,λw f=>Bo w f (FY (out++[(tx2,t6)])) (txs++tC t6 t6a t6c),λw f=>AQ w f e7 ea7,λw f=>FA w f]) (mR [4,0,1,8]);dsimp only;rw[show (out++[(tx2,t6)]).length=out.length+1 by rw[List.length_append];rfl,show bC (UH (out++[(tx2,t6)]))=bC (UH out)++[S tx2,S []] by rw[UH,List.map_append,SP.bC_app];rfl];exact hM9⟩))));refine go AV 7 [] (λ_=>Ba 116 rfl rfl (λh6=>?_) (λh6=>?_));refine go AV 2 [] (λ_=>?_);have hwk:k2.wfm 3:=by rcases hwt2.1 with h9|⟨h9,h8⟩|⟨h9,h8⟩ <;> first|exact h8|(exfalso;have:=beq_iff_eq.1 h6;omega)
 obtain⟨op3,ln3,co3,tx3,nm3,k3,r3,hkk⟩:=CM hwk dC;have hwk1:Hj op3 k3:=by have h9:=hwk;rw[hkk] at h9;exact h9
 have hks:k2.size=k3.size+r3.size+1:=by rw[hkk];rfl
 have hkl2:k2.len=r3.len+1:=by rw[hkk];rfl
 refine B5 (λw f=>A0 w f ka 0 (.cons op3 ln3 co3 tx3 nm3 k3 r3)) (λw f hM=>by rw[← hkk];exact AK.at hM.f0) A0.mono<|C6 (α:=Nat×Nat×Option Addr×Nat) (λx=>ka=some ⟨x.1,x.2.1,none⟩) (λx=>[⟨x.1,x.2.1+0*6,FI op3 ln3 co3 tx3 nm3 x.2.2.1 k3.len x.2.2.2⟩]) (λx=>[λw f=>AK w f k3 x.2.2.1 x.2.2.2,λw f=>A0 w f ka 1 r3]) (λw f hM=>let ⟨b,off,ka,kc,h1,h2,h3,h4⟩:=A0.head hM.f0;⟨(b,off,ka,kc),h1,(oE h2),A2.mem ⟨h3,h4,tQ⟩⟩) (λx=>Af.mem ⟨AK.mono,A0.mono,tQ⟩) ?_;rintro⟨eb3,eo3,ka3,kc3⟩ rfl;refine go AV 7 [1,100,0] (y<|And.intro oM<|y2<|λ_=>XE rfl rfl (eC CY rfl rfl) (λ_ h=>h) (λw f hM=>JF (k3.size+1) w f hM.vl A hA s hM.res hM.mz hw op3 ln3 co3 nm3 tx3 k3 ka3 kc3 e ea (Nat.lt_succ_self _) oM hwk1 hM.f0 heB hM.f7 (by first|omega|(dsimp only;omega))) (λ_=>Au.stab) (λ_=>⟨Ah.mono,tQ⟩) (λer w2 f2 he hE hH=>MG hn rfl rfl rfl rfl (Gh (hti.trans (DY (by rw[hkk];exact YA h6 he)))) hE (hH _ YO) (hH _ Vn) (hH _ V3)) ?_);rintro⟨⟨t6,t6a,t6c⟩,s6⟩ ⟨hp6,htb6,hw6,hf6⟩;dsimp only at hp6 htb6 hw6 hf6 ⊢;have hfm6:=LA Ks _ hp6;have hvv6:s6.vars=s.vars:=hfm6.2.2.2;refine go AV 16 [0,1,4,1] (y<|y<|y<|y<|λb14=>λ_=>DR 1 0 rfl rfl VB rfl rfl rfl rfl rfl rfl rfl rfl (λ_ _=>rfl) oM oM λoa2 oc2=>go AV 7 [5,1] (y<|y<|λb15=>λ_=>DR 0 0 rfl rfl Dt rfl rfl rfl rfl rfl rfl rfl rfl (λ_ _=>rfl) oM oM λta2 GP=>go AV 8 [] (And.intro ⟨oM,oM⟩<|λ_=>?_)));exact DM ((i+1,r,(out++[(([]:lU),t6)]),txs++tC t6 t6a t6c,ta2,GP,oa2,oc2,e,ea,s6)) (show r.len<r.len+1 from Nat.lt_succ_self _) ⟨show i+1+r.len=_ by omega,hti.trans (Je (by rw[hkk];exact dA h6 hp6)),show (out++[(([]:lU),t6)]).length≤i+1 by rw[List.length_append];simp;omega,show (FY (out++[(([]:lU),t6)])).bnd by rw[E1];exact Ty.bnd_snoc htyb htb6,heB,hwt2.2,hrx2,hw6,show r.size≤_ by omega,show s6.fresh+200002*(r.size:Int)≤_ by omega,show (r.size:Int)-nds.size-1≤s6.vars by omega,show s6.vars≤0 by omega⟩ (fS rfl rfl rfl rfl rfl (Eq.trans (b:=some (Value.slice ta2 (out.length+1) GP)) rfl (by dsimp only;rw[List.length_append];rfl)) rfl rfl rfl) (λw f hM=>⟨_,by have hM9:=(hM.more (B':=[]) (F':=[λw f=>Bo w f (FY (out++[(([]:lU),t6)])) (txs++tC t6 t6a t6c)]) nE (A2.mem ⟨by rw[E1];exact Bo.snoc hM.f0 hM.f7,tQ⟩) (Af.mem ⟨Bo.mono,tQ⟩)).less (sD (sD (sD (sD (sK (sK (sK sZ))))))) sR (B':=[]) nE (F':=[λw f=>A0 w f (some ⟨eb,eo,none⟩) (i+1) r,λw f=>Bo w f (FY (out++[(([]:lU),t6)])) (txs++tC t6 t6a t6c),λw f=>AQ w f e ea,λw f=>FA w f]) (mR [6,0,9,10]);dsimp only;rw[show (out++[(([]:lU),t6)]).length=out.length+1 by rw[List.length_append];rfl,show bC (UH (out++[(([]:lU),t6)]))=bC (UH out)++[S ([]:lU),S []] by rw[UH,List.map_append,SP.bC_app];rfl];exact hM9⟩);exfalso;have gh2:=beq_eq_false_iff_ne.1 h2;have gh3:=beq_eq_false_iff_ne.1 h3;have gh4:=beq_eq_false_iff_ne.1 h4;have gh5:=beq_eq_false_iff_ne.1 h5;have gh6:=beq_eq_false_iff_ne.1 h6;rcases hwt2.1 with h9|⟨h9,h8⟩|⟨h9,h8⟩ <;> omega
 refine go AV 3 [] (λ_=>GR<|go AV 4 [] (λ_=>?_));obtain rfl:r=.nil:=Nd.len0 (by have:=of_decide_eq_false h1;omega);have hti2:Gr OE La nds []=.ok (out,s):=hti;have hol2:out.length≤200000:=oM;refine Rb (λw f=>Ah w f (FY out) ta tc) Ah.mono (λw f hM=>Ia hM hM.f1)<|go AV 7 [] (λ_=>?_);refine HK (α:=List (lU×lU)×List (lU×T1)) (λx=>x.2.length) (λx=>x.1.length+x.2.length=out.length∧(DQ nds=match Lh s x.2 with|.error e=>.error e|.ok l=>.ok (x.1++l))∧(FY x.2).bnd) (λx=>(E7 2 (.pointer (some ⟨b1,0,none⟩)) 3 (.pointer (some ⟨b2,0,none⟩)) 4 (.pointer (some ⟨b3,0,none⟩)) 5 (.pointer (some ⟨A.cb,0,none⟩)) 137 (.slice ta out.length tc) 138 (.int .i64 (out.length:Int)) 139 (.int .i64 (x.1.length:Int)))) (λx=>⟨λ_=>False,BE A,Au 65 130 A s,w,f⟩) (λx=>[⟨b3,[.int .i64 0],27,true⟩,⟨b2,[.int .i64 0,.int .i64 0],26,true⟩,⟨b1,[.slice oa out.length oc],24,true⟩]) (λx=>[⟨32,2,oa,oc,out.length,bC (QM x.1 x.2)⟩]) (λx=>[]) (λx=>[λw f=>AZ w f ta x.1.length (FY x.2)]) ([],out) ⟨by simp,(iH hti2).trans TU,htyb⟩ lE (λw f hM=>hM.more (B':=[]) (F':=[λw f=>AZ w f ta 0 (FY out)]) nE (A2.mem ⟨Ah.at hM.f0,tQ⟩) (Af.mem ⟨AZ.mono,tQ⟩) |>.less (sK (sK (sK sZ))) sR nE (mR [0])) ?_;rintro⟨d,r⟩ ⟨hdl,hfi,htyr⟩;dsimp only at hdl hfi htyr ⊢;refine go AV 6 [] (λ_=>Ba 140 rfl rfl (λh7=>?_) (λh7=>?_));refine go AV 6 [] (λ_=>?_);have hjl:d.length<out.length:=by have:=of_decide_eq_true h7;omega
 obtain⟨⟨nm2,t2⟩,r2,rfl⟩:∃p q,r=p::q:=by cases r with|nil=>simp only[List.length_nil] at hdl;omega|cons p q=>exact⟨p,q,rfl⟩
 have htb2:t2.bnd∧(FY r2).bnd:=T1.bnd_cons.1 htyr;refine KA (p:=∃ob,oa=some ⟨ob,0,none⟩) (λw f hM=>by rcases (hM.row _ (.head _)).2 with ⟨_,_,h9⟩|⟨ob,_,h9,_⟩;(dsimp only at h9;omega);exact⟨ob,h9⟩) λhob=>?_;obtain⟨ob,rfl⟩:=hob;refine C6 (α:=Nat×Nat×Option Addr×Nat) (λx=>ta=some ⟨x.1,x.2.1,none⟩) (λx=>[⟨x.1,x.2.1+d.length*4,tC t2 x.2.2.1 x.2.2.2⟩]) (λx=>[λw f=>Ah w f t2.kids x.2.2.1 x.2.2.2,λw f=>AZ w f ta (d.length+1) (FY r2)]) (λw f hM=>let ⟨b,off,ka,kc,h1,h2,h3,h4⟩:=AZ.head (show AZ w f ta d.length (t2.cons (FY r2)) from hM.f0);⟨(b,off,ka,kc),h1,(oE h2),A2.mem ⟨h3,h4,tQ⟩⟩) (λx=>Af.mem ⟨Ah.mono,AZ.mono,tQ⟩) ?_;rintro⟨ab2,ao2,ka2,kc2⟩ rfl;refine go AV 9 [100,0,0] (And.intro oM<|y2<|λb16=>y<|λ_=>Xu [2,3,4] (λ_=>True) Fy [0,1,2,3] Ap (rd [0,1,2,3,4] (.br 5 (.br 6 (.rd 7 (.rd 8 (.br 9 .fin .fin))) .fin) .fin)) rfl kR kR kR rfl Fu<|AA AV 5 [3,0] (y<|y<|λ_=>Ag rfl ?_ Aj));refine XE rfl rfl (eC Gf rfl rfl) (λ_ h=>h) (λw f hM=>Cz w f hM.vl A hA s hM.res hM.mz hw t2 ka2 kc2 htb2.1 hM.f0 0 0) (λ_=>Au.stab) (λ_=>⟨Ah.mono,tQ⟩) (λer w2 f2 he hE hH=>MG hn rfl rfl rfl rfl (by rw[hfi,XQ he]) hE (hH _ Vn) (hH _ V3) (hH _ kH)) ?_;rintro⟨u2,ua2,uc2⟩ ⟨hfu,hub2,hus2⟩;dsimp only at hfu hub2 hus2 ⊢;refine go AV 1 [] (λ_=>Ax [0,1,2,3] rfl<|Ag rfl ?_ Aj);refine BA rfl rfl (eC iC rfl rfl) (λw f hM=>X4 w f hM.vl u2 ua2 uc2 hus2 hub2 hM.f0) (λx=>trivial) ?_;rintro⟨⟩ -;refine go AV 1 [] (λ_=>Ax [0,1,2,3] rfl<|AA AV 2 [] (And.intro oM<|λ_=>Ag rfl ?_ Aj));exact vG 0 (bC (QM (d++[(nm2,M8 u2)]) r2)) rfl rfl rfl rfl GX rfl rfl rfl (by simp only[Nat.zero_add,List.length_cons,List.length_nil,Int.toNat_natCast];omega) (by rw[Nat.zero_add,Int.toNat_natCast];exact W9) rfl<|go AV 1 [] (λ_=>Ax [0,1,2,3] rfl<|B4<|go AV 6 [] (And.intro ⟨oM,oM⟩<|λ_=>DM ((d++[(nm2,M8 u2)],r2)) (show r2.length<((nm2,t2)::r2).length from Nat.lt_succ_self _) ⟨show (d++[(nm2,M8 u2)]).length+r2.length=_ by simp only[List.length_append,List.length_cons,List.length_nil] at hdl ⊢;omega,hfi.trans (Wg hfu),htb2.2⟩ (xP rfl rfl rfl rfl rfl rfl (Eq.trans (b:=some (Value.int .i64 ((d.length:Int)+1))) rfl (by dsimp only;simp))) (λw f hM=>⟨_,by have hM9:=hM.less (sD (sK (sK (sK sZ)))) sR (B':=[]) nE (F':=[λw f=>AZ w f (some ⟨ab2,ao2,none⟩) (d.length+1) (FY r2)]) (mR [2]);dsimp only;rw[List.length_append];exact hM9⟩)));refine go AV 3 [] (λ_=>GR<|go AV 3 [] (λ_=>?_));obtain rfl:r=[]:=by have h9:=of_decide_eq_false h7;cases r with|nil=>rfl|cons p q=>simp only[List.length_cons] at hdl;omega
 refine go AV 9 [2,2,1,0] (y<|y<|y<|y<|λ_=>λw9 f9 hM=>?_);obtain⟨f8,hM8,hB8⟩:=lH (l:=QM d []) (by have hM9:=hM;rw[show out.length=(QM d []).length by rw[QM,List.length_append];simp only[List.map_nil,List.length_nil];exact hdl.symm] at hM9;exact hM9);have hinf:DQ nds=.ok d:=by rw[hfi];show (Except.ok (d++[]):RI _)=_;rw[List.append_nil]
 have hdd:QM d []=d:=List.append_nil d;rw[hdd] at hB8;exact λtmps ht=>pE rfl rfl rfl rfl hinf hM8.exm hB8 (by have h9:=hM8.blk _ V3;rw[hdd] at h9;exact h9) (hM8.blk _ kH) (hM8.blk _ uH) tmps ht
end Go.Proofs.YtegedalegfadgaaGreatDoor
namespace Go.SP
open Go.SW Go.RowKit
def Fo.sz:Fo→Nat
 |.nil=>0
 |.cons _ k r=>k.sz+r.sz+1
structure NW(k:Fo)(a:N):Prop where
 tx:a.tx.length≤100000
 kt:a.kids.txb
 sz:a.kids.size+2≤2*(k.sz+1)
def EW(f:AM→Fo→R N):Prop:=∀t k a,t.ok→k.ok→f t k=.ok a→NW k a
theorem JL{f:AM→Fo→R N}(hf:EW f):∀(fo:Fo)(x:Nd),fo.ok→AN f fo=.ok x→x.txb∧x.size+x.len≤2*fo.sz∧x.len=fo.len
 |.nil,x,_,h=>by cases h;exact⟨tQ,Nat.le_refl _,rfl⟩
 |.cons t k r,x,hk,h=>by
   unfold AN at h
   split at h
   · cases h
   rename_i a h1
   split at h
   · cases h
   rename_i b h2
   cases h
   have ha:=hf t k a hk.1 hk.2.1 h1;obtain⟨e1,e2,e3⟩:=JL hf r b hk.2.2.2 h2;refine⟨⟨ha.tx,ha.kt,e1⟩,?_,by simp only[N.cons,Nd.len,Fo.len,e3]⟩;have:=ha.sz;simp only[N.cons,Nd.size,Nd.len,Fo.sz];omega
variable {h:AM}{hk:Fo}{co ln nm:Int}{n:Nat}
theorem gN{t:AM}{k:Fo}{op:Int}{tx:lU}(h:tx.length≤100000):NW k ⟨op,ln,co,tx,nm,.nil⟩:=⟨h,tQ,by simp only[Nd.size];omega⟩
theorem oJ{f:AM→Fo→R N}(hf:EW f){l:Fo}(hl:(Fo.cons h hk l).ok){op:Int}{tx:lU}(ht:tx.length≤100000){ks:Nd}(he:AN f l=.ok ks):NW (.cons h hk l) ⟨op,ln,co,tx,nm,ks⟩:=by
 obtain⟨e1,e2,_⟩:=JL hf l ks hl.2.2.2 he;refine⟨ht,e1,?_⟩;simp only[Fo.sz];omega
theorem vY{f:AM→Fo→R N}(hf:EW f){l:Fo}(hl:l.ok){op:Int}{tx:lU}(ht:tx.length≤100000){ks:Nd}(he:AN f l=.ok ks):NW l ⟨op,ln,co,tx,nm,ks⟩:=by
 obtain⟨e1,e2,_⟩:=JL hf l ks hl he;refine⟨ht,e1,?_⟩;simp only;omega
theorem Vi:EW HR:=λt k a ht _ h=>by
 unfold HR at h
 cases h
 split
 · exact gN (t:=t) (Nat.zero_le _)
 · exact gN (t:=t) ht.2
theorem Yg:∀n,EW (Eb n)
 |0=>λ_ _ _ _ _ h=>by cases h
 |n+1=>λt k a ht hk h=>by
   have ih:=Yg n;unfold Eb at h;simp only[need] at h
   repeat' (split at h)
   all_goals first
     |(cases h;done)
     |exact Vi t _ a ht hk h
     |(cases h;first|exact gN (t:=t) (Nat.zero_le _)|exact gN (t:=t) ht.2|exact oJ ih hk (Nat.zero_le _) (by assumption)|exact oJ ih hk hk.1.2 (by assumption))
theorem RR{t:AM}:∀(x:Nd)(o:N),x.txb→CX t x=some o→o.tx.length≤100000∧o.kids.txb∧o.kids.size+2≤x.size+x.len
 |.nil,_,_,h=>by cases h
 |.cons op ln co tx nm kids .nil,o,hb,h=>by
   unfold CX at h
   cases h
   exact⟨hb.1,hb.2.1,by simp only[Nd.size,Nd.len];omega⟩
 |.cons op ln co tx nm kids (.cons a b c d e f r),o,hb,h=>by
   unfold CX at h;simp only at h
   cases hr:CX t (.cons a b c d e f r) with
   |none=>rw[hr] at h;cases h
   |some q =>
     rw[hr] at h
     cases h
     obtain⟨h1,h2,h3⟩:=RR (.cons a b c d e f r) q hb.2.2 hr;refine⟨by simp[Az],⟨hb.1,hb.2.1,h1,h2,tQ⟩,?_⟩;simp only[Az,N.one,N.cons,Nd.size,Nd.len] at h3 ⊢;omega
theorem JU{α:Type}{t:AM}{b:Bool}{x:R α}{a:α}(h:need t b x=.ok a):b=true∧x=.ok a:=by
 unfold need at h
 split at h
 · rename_i hb;exact⟨hb,h⟩
 · cases h
theorem Ui:∀n,EW (Dk n)
 |0=>λ_ _ _ _ _ h=>by cases h
 |n+1=>λt k a ht hk h=>by
   have ih:=Ui n;unfold Dk at h
   by_cases hk0:(t.k==0)=true
   · rw[if_pos hk0] at h
     split at h
     · cases h
     rename_i hd hkk l;simp only at h
     by_cases hw:hd.isWord [45,62]=true
     · rw[if_pos hw] at h
       obtain⟨_,h⟩:=JU h
       split at h
       · cases h
       rename_i ks he;obtain⟨e1,e2,e3⟩:=JL ih l ks hk.2.2.2 he
       split at h
       · rename_i o ho
         cases h
         obtain⟨h1,h2,h3⟩:=RR ks _ e1 ho;exact⟨h1,h2,by simp only[Fo.sz];omega⟩
       · cases h
     · rw[if_neg hw] at h
       obtain⟨_,h⟩:=JU h
       split at h
       · cases h
       rename_i ks he
       cases h
       exact oJ ih hk hk.1.2 he
   · rw[if_neg hk0] at h
     split at h
     · cases h;exact gN (t:=t) ht.2
     · obtain⟨_,h⟩:=JU h
       cases h;exact gN (t:=t) ht.2
theorem mP{ex:AM→Fo→R N}(hex:EW ex):EW (Gv n ex):=λt k a ht hk h=>by
 unfold Gv at h
 split at h
 · rename_i p pk b bk
   obtain⟨_,h⟩:=JU h
   split at h
   · cases h
   rename_i q h1;obtain⟨_,h⟩:=JU h
   split at h
   · cases h
   rename_i x h3
   cases h
   have h1:=Yg n _ _ _ hk.1 hk.2.1 h1;have h3:=hex _ _ _ hk.2.2.2.1 hk.2.2.2.2.1 h3;refine⟨by simp[Az],⟨h1.tx,h1.kt,h3.tx,h3.kt,tQ⟩,?_⟩;have:=h1.sz;have:=h3.sz;simp only[Az,N.one,N.cons,Nd.size,Fo.sz];omega
 · cases h
theorem QL:∀{x y:Nd},x.txb→y.txb→(x.app y).txb
 |.nil,_,_,h=>h
 |.cons _ _ _ _ _ _ _,_,h,hy=>⟨h.1,h.2.1,QL h.2.2 hy⟩
theorem NR:∀(x y:Nd),(x.app y).size=x.size+y.size
 |.nil,_=>by simp[Nd.app,Nd.size]
 |.cons _ _ _ _ _ _ r,y=>by simp only[Nd.app,Nd.size,NR r y];omega
theorem uR{x y:N}{k1 k2 k:Fo}(h1:NW k1 x)(h2:NW k2 y)(hs:k1.sz+k2.sz+2≤k.sz){op:Int}{tx:lU}(ht:tx.length≤100000):NW k ⟨op,ln,co,tx,nm,x.cons y.one⟩:=by
 refine⟨ht,⟨h1.tx,h1.kt,h2.tx,h2.kt,tQ⟩,?_⟩;have:=h1.sz;have:=h2.sz;simp only[N.one,N.cons,Nd.size];omega
theorem sA{x:N}{k1 k:Fo}(h1:NW k1 x)(hs:k1.sz+1≤k.sz){op:Int}{tx:lU}(ht:tx.length≤100000):NW k ⟨op,ln,co,tx,nm,x.one⟩:=by
 refine⟨ht,⟨h1.tx,h1.kt,tQ⟩,?_⟩;have:=h1.sz;simp only[N.one,N.cons,Nd.size];omega
theorem cR{ex:AM→Fo→R N}(hex:EW ex){t:AM}{w:lU}{l:Fo}{a:N}(hl:l.ok)(h:Bn n ex t w l=.ok a):NW l a:=by
 unfold Bn at h;simp only[need] at h
 split at h
 · split at h
   · split at h
     · split at h
       · cases h
       rename_i hs h1
       split at h
       · cases h
       rename_i x h3
       cases h
       obtain⟨e1,e2,_⟩:=JL Vi _ _ hl.2.1 h1;have hx:=hex _ _ _ hl.2.2.2.1 hl.2.2.2.2.1 h3;refine⟨by simp[Az],QL e1 ⟨hx.tx,hx.kt,tQ⟩,?_⟩;have:=hx.sz;simp only[Az,NR,N.one,N.cons,Nd.size,Fo.sz];omega
     · cases h
   · cases h
 split at h
 · split at h
   · split at h
     · split at h
       · cases h
       rename_i x h1
       split at h
       · cases h
       rename_i y h3
       cases h
       exact uR (hex _ _ _ hl.2.2.2.1 hl.2.2.2.2.1 h1) (hex _ _ _ hl.2.2.2.2.2.2.1 hl.2.2.2.2.2.2.2.1 h3) (by simp only[Fo.sz];omega) hl.1.2
     · cases h
   · cases h
 split at h
 · split at h
   · split at h
     · split at h
       · cases h
       rename_i x h1
       split at h
       · cases h
       rename_i y h3
       cases h
       exact uR (hex _ _ _ hl.2.2.2.1 hl.2.2.2.2.1 h1) (hex _ _ _ hl.2.2.2.2.2.2.1 hl.2.2.2.2.2.2.2.1 h3) (by simp only[Fo.sz];omega) hl.1.2
     · cases h
   · cases h
 iterate 3
   split at h
   · split at h
     · split at h
       · cases h
       rename_i ks h1
       cases h
       exact vY hex hl (Nat.zero_le _) h1
     · cases h
 split at h
 · split at h
   · split at h
     · cases h
     · split at h
       · cases h
       rename_i x h1
       split at h
       · cases h
       rename_i ars h3
       cases h
       have hx:=hex _ _ _ hl.1 hl.2.1 h1;obtain⟨e1,e2,_⟩:=JL (mP hex) _ _ hl.2.2.2 h3;refine⟨by simp[Az],⟨hx.tx,hx.kt,e1⟩,?_⟩;have:=hx.sz;simp only[Az,N.cons,Nd.size,Fo.sz];omega
   · cases h
 split at h
 · split at h
   · split at h
     · cases h
     rename_i x h1
     cases h
     exact sA (hex _ _ _ hl.1 hl.2.1 h1) (by simp only[Fo.sz];omega) (Nat.zero_le _)
   · cases h
 · cases h
theorem qL{l:Fo}{a:N}(h1:NW l a):NW (.cons h hk l) a:=⟨h1.tx,h1.kt,by have:=h1.sz;simp only[Fo.sz];omega⟩
theorem Nn:∀n,EW (By n)
 |0=>λ_ _ _ _ _ h=>by cases h
 |n+1=>λt k a ht hk h=>by
   have ih:=Nn n;unfold By at h;simp only[need] at h
   repeat' (split at h)
   all_goals first
     |(cases h;done)
     |exact qL (cR ih hk.2.2.2 h)
     |(cases h;first|exact gN (t:=t) (Nat.zero_le _)|exact gN (t:=t) ht.2|exact oJ ih hk hk.1.2 (by assumption)|exact vY ih hk (Nat.zero_le _) (by assumption))
theorem eD(n:Nat):EW (FN n):=λt k a ht hk h=>by
 unfold FN at h;simp only[need] at h
 repeat' (split at h)
 all_goals first
   |(cases h;done)
   |(cases h;exact oJ (Ui n) hk hk.1.2 (by assumption))
theorem Tj:∀(k:Fo)(x:Nd),k.ok→BL k=some x→x.txb∧x.size≤k.sz
 |.nil,x,_,h=>by cases h;exact⟨tQ,Nat.le_refl _⟩
 |.cons v _ r,x,hk,h=>by
   unfold BL at h
   split at h
   · cases hr:BL r with
     |none=>rw[hr] at h;cases h
     |some y =>
       rw[hr] at h
       cases h
       have:=Tj r y hk.2.2.2 hr;exact⟨⟨hk.1.2,tQ,this.1⟩,by simp only[Az,N.cons,Nd.size,Fo.sz];omega⟩
   · cases h
theorem iO(n:Nat):EW (CA n):=λt k a ht hk h=>by
 unfold CA at h;simp only[need] at h
 split at h
 · cases h
 rename_i hd hkk l;have hl:=hk.2.2.2
 split at h
 · split at h
   · split at h
     · split at h
       · split at h
         · cases h
         rename_i vs hv
         split at h
         · cases h
         rename_i cs h1
         cases h
         obtain⟨e1,e2⟩:=Tj _ _ hl.2.2.2.2.1 hv;obtain⟨e3,e4,_⟩:=JL (eD n) _ _ hl.2.2.2.2.2.2 h1;refine⟨hl.1.2,QL e1 e3,?_⟩;simp only[Az,NR,Fo.sz] at e4 ⊢;omega
       · cases h
     · cases h
   split at h
   · split at h
     · split at h
       · split at h
         · cases h
         rename_i x h1
         split at h
         · cases h
         rename_i y h3
         cases h
         exact uR (Ui n _ _ _ hl.2.2.2.1 hl.2.2.2.2.1 h1) (Nn n _ _ _ hl.2.2.2.2.2.2.1 hl.2.2.2.2.2.2.2.1 h3) (by simp only[Fo.sz];omega) hl.1.2
       · cases h
     · cases h
   split at h
   · split at h
     · split at h
       · split at h
         · cases h
         rename_i x h1
         cases h
         exact sA (Nn n _ _ _ hl.2.2.2.1 hl.2.2.2.2.1 h1) (by simp only[Fo.sz];omega) hl.1.2
       · cases h
     · cases h
   split at h
   · split at h
     · split at h
       · split at h
         · cases h
         rename_i x h1
         cases h
         exact sA (Nn n _ _ _ hl.2.2.2.1 hl.2.2.2.2.1 h1) (by simp only[Fo.sz];omega) hl.1.2
       · cases h
     · cases h
   split at h
   · split at h
     · split at h
       · cases h
       rename_i x h1
       cases h
       exact sA (Nn n _ _ _ hl.1 hl.2.1 h1) (by simp only[Fo.sz];omega) (Nat.zero_le _)
     · cases h
   · cases h
 · cases h
def EX(f:AM→Fo→R N):Prop:=∀t k a,f t k=.ok a→Hj a.op a.kids
theorem Mc{f:AM→Fo→R N}(hf:EX f):∀(fo:Fo)(x:Nd),AN f fo=.ok x→x.wfm 0
 |.nil,x,h=>by cases h;exact .inl rfl
 |.cons t k r,x,h=>by
   unfold AN at h
   split at h
   · cases h
   rename_i a h1
   split at h
   · cases h
   rename_i b h2
   cases h
   exact⟨hf t k a h1,Mc hf r b h2⟩
theorem LC{f:AM→Fo→R N}:∀(fo:Fo)(x:Nd),AN f fo=.ok x→x.len=fo.len
 |.nil,x,h=>by cases h;rfl
 |.cons t k r,x,h=>by
   unfold AN at h
   split at h
   · cases h
   split at h
   · cases h
   rename_i b h2
   cases h
   simp only[N.cons,Nd.len,Fo.len,LC r b h2]
theorem Yw{ex:AM→Fo→R N}(hex:EX ex):∀(fo:Fo)(x:Nd),AN (Gv n ex) fo=.ok x→x.wfm 1
 |.nil,x,h=>by cases h;exact .inr rfl
 |.cons t k r,x,h=>by
   unfold AN at h
   split at h
   · cases h
   rename_i a h1
   split at h
   · cases h
   rename_i b h2
   cases h
   refine⟨?_,Yw hex r b h2⟩;unfold Gv at h1;simp only[need] at h1
   repeat' (split at h1)
   all_goals first
     |(cases h1;done)
     |(rename_i h3;cases h1;exact hex _ _ _ h3)
theorem pD:∀(hs:Nd){x:N},Hj x.op x.kids→(hs.app x.one).wfm 4
 |.nil,x,h=>.inl ⟨rfl,h⟩
 |.cons op ln co tx nm k r,x,h=>by
   refine .inr ⟨?_,pD r h⟩
   cases r <;> simp[Nd.app,N.one,N.cons]
theorem dS:∀{x:Nd},x.wfm 0→x.len=3→x.wfm 7
 |.cons _ _ _ _ _ _ (.cons _ _ _ _ _ _ (.cons _ _ _ _ _ _ .nil)),h,_=>⟨h.1,h.2.1,h.2.2.1⟩
 |.nil,_,h=>by cases h
 |.cons _ _ _ _ _ _ .nil,_,h=>by cases h
 |.cons _ _ _ _ _ _ (.cons _ _ _ _ _ _ .nil),_,h=>by cases h
 |.cons _ _ _ _ _ _ (.cons _ _ _ _ _ _ (.cons _ _ _ _ _ _ (.cons _ _ _ _ _ _ _))),_,h=>by simp[Nd.len] at h
theorem cQ{ex:AM→Fo→R N}(hex:EX ex){t:AM}{w:lU}{l:Fo}{a:N}(h:Bn n ex t w l=.ok a):Hj a.op a.kids:=by
 unfold Bn at h;simp only[need] at h
 split at h
 · repeat' (split at h)
   all_goals first
     |(cases h;done)
     |(rename_i h3;cases h;exact .inr (.inr (.inl ⟨rfl,pD _ (hex _ _ _ h3)⟩)))
 split at h
 · repeat' (split at h)
   all_goals first
     |(cases h;done)
     |(rename_i h1 _ _ h3;cases h;exact .inr (.inr (.inr (.inr (.inl ⟨.inl rfl,hex _ _ _ h1,hex _ _ _ h3⟩)))))
 split at h
 · repeat' (split at h)
   all_goals first
     |(cases h;done)
     |(rename_i h1 _ _ h3;cases h;exact .inr (.inr (.inr (.inr (.inl ⟨.inr rfl,hex _ _ _ h1,hex _ _ _ h3⟩)))))
 split at h
 · split at h
   · rename_i hn
     split at h
     · cases h
     rename_i ks h1
     cases h
     have e:=LC _ _ h1;have hn:=beq_iff_eq.1 hn;exact .inr (.inr (.inr (.inr (.inr (.inl ⟨rfl,dS (Mc hex _ _ h1) (show ks.len=3 by omega)⟩)))))
   · cases h
 split at h
 · split at h
   · rename_i hn
     split at h
     · cases h
     rename_i ks h1
     cases h
     have e:=LC _ _ h1;have hn:=of_decide_eq_true hn;exact .inr (.inr (.inr (.inl ⟨.inr rfl,by show 0<ks.len;omega,Mc hex _ _ h1⟩)))
   · cases h
 split at h
 · split at h
   · split at h
     · cases h
     rename_i ks h1
     cases h
     exact .inr (.inr (.inr (.inr (.inr (.inr (.inl ⟨rfl,Mc hex _ _ h1⟩))))))
   · cases h
 split at h
 · split at h
   · split at h
     · cases h
     · split at h
       · cases h
       rename_i x h1
       split at h
       · cases h
       rename_i ars h3
       cases h
       refine .inr (.inr (.inr (.inr (.inr (.inr (.inr (.inl ⟨?_,hex _ _ _ h1,Yw hex _ _ h3⟩)))))));simp only[Az]
       split
       · exact .inr rfl
       · exact .inl rfl
   · cases h
 split at h
 · split at h
   · split at h
     · cases h
     rename_i x h1
     cases h
     refine .inr (.inr (.inr (.inr (.inr (.inr (.inr (.inr ⟨?_,hex _ _ _ h1⟩)))))));simp only[Az]
     split
     · exact .inr rfl
     · exact .inl rfl
   · cases h
 · cases h
theorem NI:∀n,EX (By n)
 |0=>λ_ _ _ h=>by cases h
 |n+1=>λt k a h=>by
   have ih:=NI n;unfold By at h;simp only[need] at h
   iterate 4
     split at h
     · cases h;first|exact .inr (.inl ⟨rfl,.inl rfl⟩)|exact .inl (by simp[Az])
   split at h
   · split at h
     · cases h;exact .inl (by simp[Az])
     · cases h
   split at h
   · cases h;exact .inl (by simp[Az])
   split at h
   · split at h
     · split at h
       · cases h
       rename_i ks h1
       cases h
       exact .inr (.inl ⟨rfl,Mc ih _ _ h1⟩)
     · cases h
   split at h
   · exact cQ ih h
   · split at h
     · split at h
       · cases h
       rename_i ks h1
       cases h
       have e:=LC _ _ h1;exact .inr (.inr (.inr (.inl ⟨.inl rfl,by show 0<ks.len;rw[e];exact Nat.succ_pos _,Mc ih _ _ h1⟩)))
     · cases h
theorem mY{t:AM}{k:Fo}{a:N}(h:CA n t k=.ok a):a.op=41∨(a.op=43∧a.kids.wfm 2)∨((a.op=44∨a.op=45∨a.op=46)∧a.kids.wfm 3):=by
 unfold CA at h;simp only[need] at h
 split at h
 · cases h
 split at h
 · split at h
   · repeat' (split at h)
     all_goals first
       |(cases h;done)
       |(cases h;exact .inl rfl)
   split at h
   · repeat' (split at h)
     all_goals first
       |(cases h;done)
       |(rename_i h3;cases h;exact .inr (.inl ⟨rfl,NI n _ _ _ h3⟩))
   split at h
   · repeat' (split at h)
     all_goals first
       |(cases h;done)
       |(rename_i h3;cases h;exact .inr (.inr ⟨.inl rfl,NI n _ _ _ h3⟩))
   split at h
   · repeat' (split at h)
     all_goals first
       |(cases h;done)
       |(rename_i h3;cases h;exact .inr (.inr ⟨.inr (.inl rfl),NI n _ _ _ h3⟩))
   split at h
   · repeat' (split at h)
     all_goals first
       |(cases h;done)
       |(rename_i h3;cases h;exact .inr (.inr ⟨.inr (.inr rfl),NI n _ _ _ h3⟩))
   · cases h
 · cases h
theorem YB:∀(fo:Fo)(x:Nd),AN (CA n) fo=.ok x→x.wft
 |.nil,x,h=>by cases h;trivial
 |.cons t k r,x,h=>by
   unfold AN at h
   split at h
   · cases h
   rename_i a h1
   split at h
   · cases h
   rename_i b h2
   cases h
   exact⟨mY h1,YB r b h2⟩
theorem QW:∀(a:Fo)(t:AM)(k:Fo),(a.snoc t k).sz=a.sz+k.sz+1
 |.nil,_,_=>by simp[Fo.snoc,Fo.sz]
 |.cons _ _ r,t,k=>by simp only[Fo.snoc,Fo.sz,QW r t k];omega
def Xa:List (AM×Fo)→Nat
 | []=>0
 |(_,p)::s=>p.sz+1+Xa s
theorem Lp:∀(l:List AM)(st:List (AM×Fo))(cur fo:Fo),AR l st cur=.ok fo→fo.sz≤Xa st+cur.sz+l.length
 | [],[],cur,fo,h=>by simp only[AR] at h;cases h;simp[Xa]
 | [],(o,p)::s,cur,fo,h=>by unfold AR at h;split at h <;> cases h
 |k::l,st,cur,fo,h=>by
   unfold AR at h
   split at h
   · split at h
     · cases h
     · have:=Lp l _ _ _ h
       simp only[Xa,Fo.sz,List.length_cons] at this ⊢;omega
   · split at h
     · cases st with
       |nil=>cases h
       |cons op s =>
         have:=Lp l _ _ _ h;simp only[Xa,QW,List.length_cons] at this ⊢;omega
     · have:=Lp l _ _ _ h
       simp only[QW,Fo.sz,List.length_cons] at this ⊢;omega
structure vV(nds:Nd):Prop where
 wft:nds.wft
 txb:nds.txb
 size:nds.size≤200000
theorem eF(n:Nat)(src:lU):vV (Ib n (Jz src)).1:=by
 unfold Ib
 cases hl:Jz src with
 |error e=>exact⟨tQ,tQ,Nat.zero_le _⟩
 |ok toks =>
   obtain⟨h1,h2⟩:=VF hl;simp only
   cases ht:AR toks [] .nil with
   |error e=>exact⟨tQ,tQ,Nat.zero_le _⟩
   |ok fo =>
     simp only
     cases he:AN (CA n) fo with
     |error e=>exact⟨tQ,tQ,Nat.zero_le _⟩
     |ok nds =>
       have h3:=(Hy toks 0 [] .nil fo h2 oM (by simp) tQ tQ (by simp[Fo.len]) (by rfl) ht).1;have h4:=Lp toks [] .nil fo ht;obtain⟨e1,e2,_⟩:=JL (iO n) fo nds h3 he;simp only[Xa,Fo.sz] at h4;exact⟨YB fo nds he,e1,by show nds.size≤_;omega⟩
theorem e4{a b:Int}:((a,b,4):Er).2.2≠0:=(by decide:(4:Int)≠0)
section
variable{s:CS}{e:Bt}{ln co:Int}{tx:lU}{t u:T1}{x:Er}
end
def wB(p:Ly):Prop:=∀{s e op ln co tx nm k x},p s e op ln co tx nm k=.error x→x.2.2≠0
def xH(p:Nr):Prop:=∀{s e op ln co tx nm k x},p s e op ln co tx nm k=.error x→x.2.2≠0
section
variable{p:Ly}(hp:wB p)
include hp
variable{q:Nr}(hq:xH q)
include hq
end
end Go.SP
namespace Go.Proofs.YtegedalegfadgaaGreatDoor
open Go.SW Go.SP Go.RowKit Go.Proofs.Tryz
abbrev RB:=RI (List (lU×lU))
def GG(src:lU):RB:=bif (G0 src).2.2.2==0 then DQ (G0 src).1 else .error ((G0 src).2.1,(G0 src).2.2.1,(G0 src).2.2.2)
def tO:RB→Int×Int×Int
 |.error e=>e
 |.ok _=>(0,0,0)
def vO:RB→List (lU×lU)
 |.error _=>[]
 |.ok l=>l
abbrev xM(r:RB)(x:Option Addr×Nat):Value:=.tuple #[.slice x.1 (vO r).length x.2,.agg #[.int .i64 (tO r).1,.int .i64 (tO r).2.1],.int .i64 (tO r).2.2]
def tS(r:RB)(w:World)(f:Fq):Value→World→Prop:=BW (α:=Option Addr×Nat) (xM r) (λ_=>True) (λx=>[λw f=>O1 w f (vO r) x.1 x.2]) w f
variable {f:Fq}{a:Option Addr}{w w':World}{src:lU}
theorem WB.out{nds:Nd}{v:Value}(h:WB nds w f v w'):tS (DQ nds) w f v w':=by
 obtain⟨f',hE,h⟩:=h
 cases hi:DQ nds with
 |error er =>
   rw[hi] at h;exact⟨(none,0),f',h,tQ,hE,⟨Nat.zero_le _,.inl rfl⟩,tQ⟩
 |ok bs =>
   rw[hi] at h;obtain⟨a,c,h1,h2⟩:=h;exact⟨(a,c),f',h1,tQ,hE,h2,tQ⟩
theorem YG(w:World)(f:Fq)(hv:Vl w f)(hG:FA w f)(nds:Nd)(na:Option Addr)(nc:Nat)(hwt:nds.wft)(hsz:nds.size≤200000)(htb:nds.txb)(hN:AK w f nds na nc) :
   BC prog 7 #[.slice na nds.len nc] w (tS (DQ nds) w f):=(Ue w f hv hG nds na nc hwt hsz htb hN).mono λ_ _ h=>WB.out h
theorem OB(src:lU):vV (G0 src).1:=eF 200 src
theorem Tp(h:(G0 src).2.2.2=0):GG src=DQ (G0 src).1:=by unfold GG;rw[h];rfl
theorem Yn(h:(G0 src).2.2.2≠0):GG src=.error ((G0 src).2.1,(G0 src).2.2.1,(G0 src).2.2.2):=by
 unfold GG;rw[show ((G0 src).2.2.2==0)=false by simpa using h];rfl
def Yh:lU:=[40,100,101,102,32,105,100,32,40,102,110,32,40,120,41,32,120,41,41,32,40,100,101,102,32,114,32,40,114,101,102,32,49,41,41]
def aE:lU:=[40,100,111,32,40,43,32,49,32,34,97,34,41,41]
def jJ:List (lU×lU):=[([105,100],[40,45,62,32,39,97,32,39,97,41]),([114],[40,114,101,102,32,105,110,116,41])]
set_option maxRecDepth 100000 in
theorem iD:GG Yh=.ok jJ:=kR
set_option maxRecDepth 100000 in
theorem mN:GG aE=.error (1,10,11):=kR
theorem len_app:∀(a b:Nd),(a.app b).len=a.len+b.len
 |.nil,b=>(Nat.zero_add _).symm
 |.cons _ _ _ _ _ _ r,b=>by show (r.app b).len+1=r.len+1+b.len;rw[len_app r b];omega
theorem O1.opn{l:List (lU×lU)}{c:Nat}(h:O1 w f l a c)(hl:l≠[]):∃x:Nat×Nat,a=some ⟨x.1,x.2,none⟩∧Cs w f x.1 x.2 (bC l) :=
 h.2.elim (λh=>absurd h hl) λ⟨b,off,h1,h2⟩=>⟨(b,off),h1,h2⟩
end Go.Proofs.YtegedalegfadgaaGreatDoor
namespace Go.Proofs.YtegedalegfadgaaGreatDoor
open Go.SW Go.SP Go.RowKit Go.Lib
section
variable{P:Program}{w:World}
variable {e t:TypeId}
theorem Qc{g:Nat}{k:IntKind}{zero:Array Value}(h:w.ShapedOpen P)(hg:g<P.globals.size)
   (h0:((begin P (λ_ _=>0) default).world.heap[g]?).bind Obj.row?=some (zero,t)) (hz:zero.size=1)
   (hb:P.buildable t=true) (hc:P.cellTypes P.depth t=some [t]) (hu:P.underlying t=some (.int k)):∃m,w.cell? ⟨g,0,none⟩=some (.int k m):=by
 obtain⟨cs,hh,hs,hr⟩:=h.1 g zero t hg h0;obtain⟨ts,hts,_,hall⟩:=hr hb;rw[hc] at hts
 cases hts
 have h1:0<cs.size:=oM;obtain⟨u,hu',hok⟩:=hall 0 cs[0] (by simp[h1]);have:u=t:=by simpa using hu'.symm
 subst this;have hcell:w.cell? ⟨g,0,none⟩=some cs[0]:=by simp[World.cell?,hh,h1]
 rw[hcell];unfold Cell.ok at hok;rw[hu] at hok
 cases hv:cs[0] with
 |int k' m =>
   rw[hv] at hok
   have hk:k'=k:=by
     simp at hok;exact hok.1
   exact⟨m,by rw[hk]⟩
 |_=>rw[hv] at hok;simp at hok
theorem JA{n:String}{g:Nat}{cs:Array Value}(hg:P.globalNamed n=some g)(hv:w.var? P n=some cs)(o:Nat):w.cell? ⟨g,o,none⟩=cs.toList[o]?:=by
 rw[World.var?_cell hg hv o,Array.getElem?_toList]
theorem Uc{n:String}{g:Nat}{b:Bool}(hn:P.globalNamed n=some g)(hy:(P.globals[g]?).map (·.type)=some t)(ht:P.underlying t=some .bool)(h:VarReads P w n (.lit (.bool b))):w.cell? ⟨g,0,none⟩=some (.bool b):=by
 obtain⟨g',t',cs,fuel,p,hg,hty,hvar,hd⟩:=h;obtain rfl:=Option.some.inj (hn.symm.trans hg);obtain rfl:=Option.some.inj (hy.symm.trans hty);obtain⟨b',hc,hx⟩:=DataW.trod_bool ht hd;rw[JA hn hvar,hc]
 cases hx
 rfl
theorem Rf{n:String}{g:Nat}{ms}{d:DataW Unit}(hn:P.globalNamed n=some g)(hy:(P.globals[g]?).map (·.type)=some t)(ht:P.underlying t=some (.interface ms))(h:VarReads P w n d) :
   ∃v,w.cell? ⟨g,0,none⟩=some v∧(v=.nilIface∨∃te pe,v=.iface te pe):=by
 obtain⟨g',t',cs,fuel,p,hg,hty,hvar,hd⟩:=h;obtain rfl:=Option.some.inj (hn.symm.trans hg);obtain rfl:=Option.some.inj (hy.symm.trans hty);rw[JA hn hvar]
 cases fuel with
 |zero=>simp[DataW.trod] at hd
 |succ fuel =>
   unfold DataW.trod at hd;rw[ht] at hd;generalize cs.toList=l at hd
   split at hd
   all_goals first
     |(rename_i heq;cases heq;done)
     |(rename_i h1 h2;cases h1;done)
     |(exact⟨_,rfl,.inl rfl⟩)
     |(exact⟨_,rfl,.inr ⟨_,_,rfl⟩⟩)
     |cases hd
theorem Tv{n:String}{g:Nat}{fs:Array Field}{f:Field}{k:IntKind}{z:Int}{ds:List (DataW Unit)}(hn:P.globalNamed n=some g)(hy:(P.globals[g]?).map (·.type)=some t)(ht:P.underlying t=some (.struct fs))
   (hf:fs[0]?=some f) (hfo:f.offset=0) (hft:P.underlying f.type=some (.int k)) (hfc:P.cellsOf f.type=1) (h:VarReads P w n (.agg (.lit (.int k z)::ds))):w.cell? ⟨g,0,none⟩=some (.int k z):=by
 obtain⟨g',t',cs,fuel,p,hg,hty,hvar,hd⟩:=h;obtain rfl:=Option.some.inj (hn.symm.trans hg);obtain rfl:=Option.some.inj (hy.symm.trans hty);obtain⟨xs,m,rfl,hx,hl,hxl,hall⟩:=DataW.trod_struct ht hd;have h0:=hall 0 f hf;have e0:xs.map (·.1)=.lit (.int k z)::ds:=by have:=congrArg Prod.fst hx;simpa using this.symm
 cases xs with
 |nil=>cases e0
 |cons x xs =>
   simp only[List.map_cons,List.cons.injEq] at e0;obtain⟨z',hz,hz2,_⟩:=DataW.trod_int hft (h0.trans (by rfl));rw[JA hn hvar]
   have hzz:z'=z:=by
     have:=hz2▸e0.1;simpa using this
   subst hzz;rw[hfo,hfc,List.drop_zero] at hz
   cases hcs:cs.toList with
   |nil=>rw[hcs] at hz;cases hz
   |cons c r=>rw[hcs] at hz;simp at hz;simp[hz]
theorem S7{n:String}{g:Nat}{l:List (DataW Unit)}{c:Nat}{m:Int}(hn:P.globalNamed n=some g)(hy:(P.globals[g]?).map (·.type)=some t)(ht:P.underlying t=some (.array 256 e))(he:P.underlying e=some (.int .u8))(hc1:P.cellsOf e=1)
   (h:VarReads P w n (.agg l)) (hc:c<256) (hl:l[c]?=some (.lit (.int .u8 m))):w.cell? ⟨g,c,none⟩=some (.int .u8 m):=by
 obtain⟨g',t',cs,fuel,p,hg,hty,hvar,hd⟩:=h;obtain rfl:=Option.some.inj (hn.symm.trans hg);obtain rfl:=Option.some.inj (hy.symm.trans hty);obtain⟨xs,k,rfl,hx,hcl,hxl,hall⟩:=DataW.trod_array ht hd;have e0:xs.map (·.1)=l:=by have:=congrArg Prod.fst hx;simpa using this.symm
 have h1:=hall c hc;rw[hc1,Nat.mul_one] at h1;have hxc:xs[c]?=some (xs[c]'oM):=List.getElem?_eq_getElem oM;rw[hxc] at h1;obtain⟨z,hz,hz2,_⟩:=DataW.trod_int he h1;have e1:l[c]?=some ((xs[c]'oM).1):=by rw[← e0,List.getElem?_map,hxc];rfl
 rw[e1,hz2] at hl;have hzm:z=m:=by simpa using hl
 subst hzm;rw[JA hn hvar];have h2:((cs.toList.drop c).take 1)[0]?=some (.int .u8 z):=by rw[hz];rfl
 rw[List.getElem?_take] at h2;simpa using h2
theorem PX{n:String}{g:Nat}{k:FloatKind}{l:List Nat}(hn:P.globalNamed n=some g)(hy:(P.globals[g]?).map (·.type)=some t)(ht:P.underlying t=some (.slice e))(he:P.underlying e=some (.float k))(hc:P.cellsOf e=1)
   (hl:0<l.length) (h:VarReads P w n (.slice (l.map λx=>.lit (.float k x)) [])):∃b off len cap,w.cell? ⟨g,0,none⟩=some (.slice (some ⟨b,off,none⟩) len cap)∧l.length≤len∧∀(j v:Nat),l[j]?=some v→w.cell? ⟨b,off+j,none⟩=some (.float k v):=by
 obtain⟨g',t',cs,fuel,p,hg,hty,hvar,hd⟩:=h;obtain rfl:=Option.some.inj (hn.symm.trans hg);obtain rfl:=Option.some.inj (hy.symm.trans hty);rcases DataW.trod_slice ht hd with ⟨_,hx⟩|⟨a,len,cap,el,rs,m,rfl,hcs,hx,_,hlc,_,hel,helem,hsp,_⟩
 · cases hx
 have e0:=congrArg Prod.fst hx;simp only[DataW.slice.injEq] at e0;have hlen:len=l.length:=by have:=congrArg List.length e0.1;simp at this;omega
 have hcell:∀(j v:Nat),l[j]?=some v→w.cell? (a.add j)=some (.float k v):=by
   intro j v hv;obtain⟨hj,hjv⟩:=List.getElem?_eq_some_iff.1 hv;have h1:=helem j oM;rw[hc,Nat.mul_one] at h1;obtain⟨b,hb⟩:∃b,el[j]?=some b:=⟨el[j]'oM,List.getElem?_eq_getElem oM⟩;rw[hb] at h1;obtain⟨ce,hce,hte⟩:=Option.bind_eq_some_iff.1 h1
   have hb1:b.1=.lit (.float k v):=by
     have:=congrArg (·[j]?) e0.1;simp[hb,hv] at this;exact this.symm
   have hce2:ce=[.float k v]:=by
     cases m with
     |zero=>simp[DataW.trod] at hte
     |succ m =>
       unfold DataW.trod at hte;rw[he] at hte
       split at hte <;> simp_all
       obtain⟨⟨rfl,_⟩,rfl⟩:=hte;simpa using hb1
   obtain⟨_,_,hcc⟩:=World.cells?_some hce;have h0:=hcc 0 oM;rw[hce2] at h0;have e1:(a.add j).add 0=a.add j:=by simp[Addr.add]
   rw[e1] at h0;exact h0
 obtain⟨R,o,sR⟩:=a
 obtain rfl:sR=none:=by
   obtain⟨v0,hv0⟩:∃v,l[0]?=some v:=⟨l[0],List.getElem?_eq_getElem hl⟩;have h00:=hcell 0 v0 hv0;have:(Addr.add ⟨R,o,sR⟩ 0)=⟨R,o,sR⟩:=by simp[Addr.add]
   rw[this] at h00;exact Go.Proofs.cell_spot h00
 refine⟨R,o,len,cap,?_,oM,λj v hv=>?_⟩
 · rw[JA hn hvar,hcs];rfl
 · have:=hcell j v hv
   rwa[ES] at this
end
end Go.Proofs.YtegedalegfadgaaGreatDoor
namespace Go.Proofs.YtegedalegfadgaaGreatDoor
open Go.SW Go.SP Go.RowKit Go.Lib Go.ChangeShapes Go.WideShapes Go.ChangeAt
theorem own:ownKnob Tryz.prog.godebug=none:=kR
def Vc:List Nat:=[4607182418800017408,4621819117588971520,4636737291354636288,4652007308841189376,4666723172467343360,4681608360884174848,4696837146684686336,4711630319722168320,4726483295884279808,4741671816366391296,4756540486875873280,4771362005757984768,4786511204640096256,4801453603149578240,4816244402031689728,4831355200913801216,4846369599423283200,4861130398305394688,4876203697187506176,4891288408196988160,4906019910204099648,4921056587992461136,4936209963552724370]
variable {args:Array Value}{fid:FuncId}{b j o:Nat}{W w:World}
theorem W1{v:Nat}(h:G9[j]?=some v):Vc[j]?=some v:=by
 have e:G9=Vc.take 15:=rfl;rw[e,List.getElem?_take] at h
 split at h
 · exact h
 · cases h
abbrev VD:List (String×DataW Unit):=Rows.inferChainsRow.laid
theorem LF(k:Nat){n:String}{d:DataW Unit}(h:laidMet Tryz.prog VD W)(hk:VD[k]?=some (n,d):=by rfl):VarReads Tryz.prog W n d:=laidMet.reads h (List.mem_of_getElem? hk)
theorem kZ:(Rows.laid_strings_asciiSpace:DataW Unit)=.agg ((List.range 256).map λc=>.lit (.int .u8 (if Lib.isSp (UInt8.ofNat c) then 1 else 0))):=kR
theorem qA(h:laidMetH Tryz.prog VD W)(hS:W.ShapedOpen Tryz.prog):Gl W∧∀c:Nat,c<256→W.cell? ⟨0,c,none⟩=some (.int .u8 (if Lib.isSp (UInt8.ofNat c) then 1 else 0)):=by
 rw[MakeChecks.laidMetH_plain _ _ _ (by kernel_rfl)] at h;refine⟨⟨?_,?_,?_,?_,?_⟩,?_⟩
 · exact Qc (t:=3) (zero:=#[.int .i64 0]) hS (of_decide_eq_true kR) kR kR kR kR Tryz.underlying3
 · obtain⟨ms,hm⟩:=Ip (show XV Tryz.prog 172=true by kernel_rfl)
   exact Rf (t:=172) kR kR hm (LF 10 h)
 · exact Uc (t:=4) kR kR Tryz.underlying4 (LF 4 h)
 · exact Tv (t:=268) kR kR (fs:=Tryz.prog.fieldsOf 268) kR (f:=(Tryz.prog.fieldsOf 268)[0]!) kR kR kR kR
     (LF 3 h)
 · obtain⟨b,off,n,c,h1,h2,h3⟩:=PX (l:=Vc) kR kR (t:=303) (e:=182) kR kR kR dC (LF 6 h)
   exact⟨b,off,n,c,h1,Nat.le_trans dC h2,λj v hv=>h3 j v (W1 hv)⟩
 · intro c hc
   have hr:=LF 13 h;rw[kZ] at hr;exact S7 (t:=157) (e:=5) kR kR kR kR kR hr hc (by rw[List.getElem?_map,List.getElem?_range hc];rfl)
def cH(w:World):Fq:=λb=>match w.heap[b]? with
 |some (.cells cs _ _)=>cs.size
 |_=>0
theorem jW(w:World):Vl w (cH w):=λb h=>by
 unfold cH;rw[Array.getElem?_eq_none h]
theorem Ls{v:Value}(h:w.cell? ⟨b,o,none⟩=some v):o<cH w b:=by
 unfold cH;unfold World.cell? at h
 cases hb:w.heap[b]? with
 |none=>rw[hb] at h;cases h
 |some x =>
   rw[hb] at h
   cases x with
   |cells c e fr=>simpa using (Array.getElem?_eq_some_iff.1 h).1
   |_=>cases h
theorem eY(h:laidMetH Tryz.prog VD W)(hS:W.ShapedOpen Tryz.prog):D5 W (cH W)∧FA W (cH W):=by
 obtain⟨⟨⟨m,hm⟩,⟨v,h1,h2⟩,h3,h4,⟨b,off,n,c,h5,h6,h7⟩⟩,h8⟩:=qA h hS;refine⟨λw' f' hF=>?_,⟨m,λj v hj=>?_⟩,λc hc=>⟨Ls (h8 c hc),h8 c hc⟩⟩
 · have k:∀{b o:Nat}{v:Value},W.cell? ⟨b,o,none⟩=some v→w'.cell? ⟨b,o,none⟩=some v:=λ{b o v} h=>((hF b).2 o (Ls h)).trans h
   exact⟨⟨m,k hm⟩,⟨v,k h1,h2⟩,k h3,k h4,⟨b,off,n,c,k h5,h6,λj v hv=>k (h7 j v hv)⟩⟩
 · cases j with
   |zero=>cases hj;exact⟨Ls hm,hm⟩
   |succ j=>cases hj
theorem ZI(h:BC Tryz.prog fid args W (BW (α:=Unit) (λ_=>.bool true) (λ_=>True) (λ_=>[]) W (cH W))):BC Tryz.prog fid args W λv w'=>v=.bool true∧AY W w' :=
 h.mono λ_ _ ⟨_,_,h1,_,h2,_⟩=>⟨h1,h2.stp.ext⟩
variable {P:Program}{e t:TypeId}
theorem X5{H:Type}{enc:TypeId×Value→H}{r:Reach}{b0:Nat}{v:Value}{d:DataW H}{ps:List MemPlace}(ht:P.underlying t=some (.slice e))(he:P.underlying e=some (.int .i64))(hc:P.cellsOf e=1)
   (hval:Value.okWide P W r b0 t v) (hd:DataW.Trod enc P W 0 (λ_=>true) true t v d ps) :
   ∃(l:List Int)(a:Option Addr)(c:Nat),v=.slice a l.length c∧B7 W (cH W) l a c∧∀W' held,AY W W'→DataW.Trod enc P W' 0 (λb=>decide (b<W.heap.size)) held t v d ps:=by
 obtain⟨a,len,cap,rfl⟩:=okWide_slice ht hval;obtain⟨fuel,hf⟩:=hd;rcases open_ints ht he hc hf with ⟨h1,h2⟩|⟨a',len',cap',zs,h1,hb,hl,hm,hz,hx,hcell,hw⟩
 · have h1:[Value.slice a len cap]=[.slice none 0 0]:=h1
   cases h1
   cases h2
   exact⟨[],none,0,rfl,⟨Nat.le_refl _,.inl rfl⟩,λW' _ _=>⟨1,by simp[DataW.trod,Value.cells,ht]⟩⟩
 · have h1:[Value.slice a len cap]=[.slice (some a') len' cap']:=h1
   cases h1
   rw[if_pos rfl] at hz;have hx1:=congrArg Prod.fst hx;have hx2:=congrArg Prod.snd hx;dsimp only at hx1 hx2;subst hx1 hx2;have hlen:(zs.take len).length=len:=by simp;omega
   refine⟨zs.take len,some a',cap,by rw[hlen],⟨by rw[hlen];exact hl,?_⟩,λW' _ hE=>⟨2,?_⟩⟩
   · by_cases h0:zs.take len=[]
     · exact .inl h0
     · have hp:0<zs.length:=by
         cases zs with
         |nil=>simp at h0
         |cons _ _=>simp
       obtain⟨b,off,s⟩:=a';have hs:=World.cell?_spot (hcell 0 hp)
       have hs:s=none:=by
         cases s with
         |none=>rfl
         |some k=>simp[Addr.add] at hs
       subst hs;refine .inr ⟨b,off,rfl,λj v hj=>?_⟩;rw[List.getElem?_map] at hj
       have hjl:j<(zs.take len).length:=by
         rcases Nat.lt_or_ge j (zs.take len).length with h|h
         · exact h
         · rw[List.getElem?_eq_none h] at hj;cases hj
       have hjz:j<zs.length:=by rw[hlen] at hjl;omega
       have hcj:=hcell j hjz;rw[WideShapes.add_plain] at hcj
       have e1:v=.int .i64 (zs.getD j 0):=by
         rw[List.getElem?_take,if_pos (by rw[hlen] at hjl;exact hjl),List.getElem?_eq_getElem hjz] at hj;rw[List.getD_eq_getElem?_getD,List.getElem?_eq_getElem hjz];exact (Option.some.inj hj).symm
       rw[e1];exact⟨Ls hcj,hcj⟩
   · by_cases hp:zs.length=0
     · exact shut_ints 0 ht he hc (Nat.zero_le _) hl hm (by rw[hz];split <;> omega) (λi hi=>by omega) hw
     · have hbl:a'.block<W.heap.size:=by
         have h:=hcell 0 oM;unfold World.cell? at h;rw[block_add] at h;rcases Nat.lt_or_ge a'.block W.heap.size with h' | h'
         · exact h'
         · rw[Array.getElem?_eq_none h'] at h;cases h
       exact shut_ints 0 ht he hc (Nat.zero_le _) hl hm (by rw[if_pos (by simpa using hbl)];exact hz) (λi hi=>by
         have h:=hcell i hi;unfold World.cell? at h ⊢;rw[block_add] at h ⊢;rw[hE.block _ hbl];exact h) hw
end Go.Proofs.YtegedalegfadgaaGreatDoor
namespace Go.Proofs.YtegedalegfadgaaGreatDoor
open Go.SW Go.RowKit Go.Proofs.Tryz
theorem bD:ZF prog 3 23=some .u64:=kR
theorem dZ:ZF prog 23 3=some .i64:=kR
theorem Pg:BV prog 4:=Ao func4 kR kR
theorem V6:BV prog 5:=Ao func5 kR kR
theorem rN:BV prog 6:=Ao func6 kR kR
theorem oO:BV prog 7:=Ao func7 kR kR
theorem lS:Zf prog 26=true:=kR
theorem VZ:prog.underlying 4=some .bool:=kR
end Go.Proofs.YtegedalegfadgaaGreatDoor
namespace Go.Proofs.YtegedalegfadgaaGreatDoor
open Go.SW Go.SP Go.RowKit Go.Proofs.Tryz
def xD:Eh:=⟨[(32,1,1)],[(24,32,2)],[],[],[(26,true,2),(9,false,1)],[(26,[.int .i64 0,.int .i64 0])],[(26,[(0,1),(1,1)])],[]⟩
theorem Mv:xD.Ok prog:=⟨(And.intro PU tQ),(And.intro Z1 tQ),tQ,tQ,(And.intro Db (And.intro GX tQ)),(And.intro VO tQ),(And.intro Zn tQ),tQ⟩
theorem Jn(w:World)(f:Fq)(hv:Vl w f)(hJ:D5 w f)(hG:FA w f)(src:lU) :
   BC prog 4 #[S src] w (tS (GG src) w f):=by
 refine Dl (X:=X0 w f) (H:=[]) (R:=[]) (B:=[]) (Fs:=[λw f=>D5 w f,λw f=>FA w f]) (f:=f) func4 rfl rfl rfl (C8 hv ⟨hJ,hG,tQ⟩ ⟨D5.mono,FA.mono,tQ⟩)<|go Mv 10 [] (λb1=>λ_=>BA rfl rfl (eC rN rfl rfl) (λw f hM=>YQ w f hM.vl hM.f0 src) (λ_=>⟨AK.mono,tQ⟩) ?_);rintro⟨na,nc⟩ -;dsimp only;refine go Mv 17 [0] (λb2=>y<|λ_=>Ba 15 rfl rfl (λh1=>?_) (λh1=>?_));refine go Mv 2 [] (λ_=>Dp [0] Ap (rd [0,1,2] (.br 3 (.rd 4 .fin) .fin)) rfl kR<|AA Mv 3 [0] (y<|λ_=>Ag rfl ?_ Aj));exact go Mv 2 [1] (y<|λ_=>Ax [0] rfl<|AA Mv 1 [] (λ_=>B4<|go Mv 3 [] (λ_=>Bc (λw f hM=>EC rfl (Ak rfl) (Ac rfl Db hM.k1 rfl) (Ak rfl)) (λw f hM=>(by rw[Yn (by simpa using h1)];exact⟨(none,0),f,rfl,tQ,hM.exm,⟨Nat.zero_le _,.inl rfl⟩,tQ⟩)))));refine go Mv 6 [] (λ_=>BA rfl rfl (eC oO rfl rfl) (λw f hM=>YG w f hM.vl hM.f2 _ na nc (OB src).wft (OB src).size (OB src).txb hM.f0) (λ_=>⟨O1.mono,tQ⟩) ?_);rintro⟨a,c⟩ -;exact go Mv 9 [1] (y<|λ_=>Bc (λw f hM=>EC rfl (Ak rfl) (Ac rfl Db hM.k1 rfl) (Ak rfl)) (λw f hM=>(by rw[Tp (by simpa using h1)];exact⟨(a,c),f,rfl,tQ,hM.exm,hM.f0,tQ⟩)))
theorem Sg(w:World)(f:Fq)(hv:Vl w f)(hJ:D5 w f)(hG:FA w f):BC prog 4 #[S Yh] w (BW (α:=Option Addr×Nat) (λx=>.tuple #[.slice x.1 2 x.2,.agg #[.int .i64 0,.int .i64 0],.int .i64 0]) (λ_=>True) (λx=>[λw f=>O1 w f jJ x.1 x.2]) w f):=by
 have h:=Jn w f hv hJ hG Yh;rw[iD] at h;exact h
theorem So(w:World)(f:Fq)(hv:Vl w f)(hJ:D5 w f)(hG:FA w f):BC prog 4 #[S aE] w (BW (α:=Option Addr×Nat) (λx=>.tuple #[.slice x.1 0 x.2,.agg #[.int .i64 1,.int .i64 10],.int .i64 11]) (λ_=>True) (λx=>[λw f=>O1 w f ([]:List (lU×lU)) x.1 x.2]) w f):=by
 have h:=Jn w f hv hJ hG aE;rw[mN] at h;exact h
theorem HP(w:World)(f:Fq)(hv:Vl w f)(hJ:D5 w f)(hG:FA w f) :
   BC prog 5 #[] w (BW (α:=Unit) (λ_=>.bool true) (λ_=>True) (λ_=>[]) w f):=by
 refine Dl (X:=X0 w f) (H:=[]) (R:=[]) (B:=[]) (Fs:=[λw f=>D5 w f,λw f=>FA w f]) (f:=f) func5 rfl rfl rfl (C8 hv ⟨hJ,hG,tQ⟩ ⟨D5.mono,FA.mono,tQ⟩)<|go Mv 7 [] (λ_=>BA rfl rfl (eC Pg rfl rfl) (λw f hM=>Sg w f hM.vl hM.f0 hM.f1) (λ_=>⟨O1.mono,tQ⟩) ?_);rintro⟨ba,bc⟩ -;refine C6 (α:=Nat×Nat) (λx=>ba=some ⟨x.1,x.2,none⟩) (λx=>[⟨x.1,x.2,bC jJ⟩]) (λx=>[]) (λw f hM=>let ⟨x,h1,h2⟩:=O1.opn hM.f0 (List.cons_ne_nil _ _);⟨x,h1,oE h2,nE⟩) (λx=>Af.mem tQ) ?_;rintro⟨eb,eo⟩ rfl;refine go Mv 12 [0] (λb1=>y<|λ_=>BA rfl rfl (eC Pg rfl rfl) (λw f hM=>So w f hM.vl hM.f1 hM.f2) (λ_=>⟨O1.mono,tQ⟩) ?_);rintro⟨da,dc⟩ -;exact go Mv 40 [0,100,1,100,3,0] (λb2=>y<|And.intro dC<|y2<|And.intro dC<|y2<|y<|λ_=>EU rfl rfl (λw f hM=>YJ lS rfl rfl)<|go Mv 5 [] (λ_=>Bc (DI rfl rfl) (λw f hM=>⟨(),f,rfl,tQ,hM.exm,tQ⟩)))
end Go.Proofs.YtegedalegfadgaaGreatDoor
namespace Go.SP
def Dx:Nat→lU
 |1=>[108,101,110]
 |2=>[110,101,103]
 |3=>[105,116,111,102]
 |_=>[105,116,111,97]
def Jt:Nat→lU
 |1=>bS
 |_=>bI
def TP:Nat→lU
 |1=>bI
 |2=>bI
 |3=>bF
 |_=>bS
def Um:List Nat→Option lU
 | []=>some bI
 |k::ks=>if Um ks=some (Jt k) then some (TP k) else none
def rF:List Nat→Int→lU→Nd→Prop
 | [],op,tx,_=>op=5∧tx=[120]
 |k::ks,op,_,kids=>op=8∧∃l1 c1 m1 k1 o2 l2 c2 x2 m2 k2,kids=.cons 5 l1 c1 (Dx k) m1 k1 (.cons o2 l2 c2 x2 m2 k2 .nil)∧rF ks o2 x2 k2
def QD:List Nat→lU
 | []=>bI
 |k::_=>TP k
def Hr:List Nat→Bool
 | []=>true
 |k::ks=>Hr ks&&Jt k==QD ks
theorem Uv:∀ks,Um ks=if Hr ks then some (QD ks) else none
 | []=>rfl
 |k::ks=>by
   show (if Um ks=some (Jt k) then some (TP k) else none)=if (Hr ks&&Jt k==QD ks)=true then some (TP k) else none
   rw[Uv ks]
   cases Hr ks
   · rfl
   · by_cases h:Jt k=QD ks
     · simp[h]
     · simp[h,Ne.symm h]
theorem QX{b:BX}{n:Int}{tx:lU}{k:Ty}(h:Ce b n=some (.con tx k)):Ai b (.var n)=.con tx k:=by
 unfold Ai
 cases b with
 |nil=>cases h
 |cons p q =>
   show (match Ce (p::q) n with|none=>T1.var n|some t'=>Hq (p::q) (q.length+1) t')=_;rw[h];rfl
theorem bM{b:BX}{n:Int}(h:Ce b n=none):Ai b (.var n)=.var n:=by
 unfold Ai;show (match Ce b n with|none=>T1.var n|some t'=>Hq b b.length t')=_;rw[h]
theorem fQ:∀{b:BX}{n:Int},(∀p∈b,p.1<n)→Ce b n=none
 | [],_,_=>rfl
 |p::b,n,h=>by
   show (if p.1==n then some p.2 else Ce b n)=none;rw[if_neg (by have:=h p (.head _);simp;omega),fQ λq hq=>h q (.tail _ hq)]
def HD(b:BX)(t:T1)(c:lU):Prop:=t=c0 c∨∃n,t=.var n∧Ce b n=some (c0 c)
structure SG(s:CS):Prop where
 one:Ce s.sol 1=some (c0 bI)
 le:∀p∈s.sol,p.1≤s.fresh
theorem HD.head{b:BX}{t:T1}{c:lU}:HD b t c→Ai b t=c0 c
 |.inl h=>by rw[h];rfl
 |.inr ⟨n,h,hl⟩=>by rw[h];exact QX hl
theorem HD.full{b:BX}{t:T1}{c:lU}(h:HD b t c):CL b t=some (c0 c):=by
 rcases h with rfl|⟨n,rfl,hl⟩
 · rfl
 · have hh:=QX hl
   have e1:FD b (.var n)=true:=by
     show (match Ai b (.var n) with|.var _=>FG b 999 .nil|.con _ ks=>FG b 999 (ks.app .nil))=true;rw[show Ai b (.var n)=_ from hh];rfl
   show (if FD b (.var n) then some (AP b 1000 (T1.var n).one).hd else none)=_;rw[if_pos e1];show some (match Ai b (.var n) with|.var m=>Ty.var m (AP b 999 .nil)|.con tx ks=>.con tx (AP b 999 ks) (AP b 999 .nil)).hd=_;rw[show Ai b (.var n)=_ from hh];rfl
theorem Np{s:CS}{t:T1}{c:lU}(h:HD s.sol t c)(ln co:Int):Fh s t ln co=.ok (c0 c):=by unfold Fh;rw[h.full]
def gA(k:Nat):T1:=.con Dv ((c0 (Jt k)).cons (c0 (TP k)).one)
theorem Tl(b:BX)(k:Nat):CL b (gA k)=some (gA k):=rfl
variable {k:Nat}
theorem mM{e:Bt}{s:CS}(hp:Ix e (Dx k)=some ⟨Dx k,gA k,[aI]⟩)(ln co:Int):G3 s e (Dx k) ln co=.ok (gA k,s):=by
 unfold G3 Fh;rw[hp];dsimp only;rw[Tl];rfl
theorem lN{e:Bt}{s:CS}(h:SG s)(hx:Ix e [120]=some ⟨[120],.var 1,[]⟩)(ln co:Int):G3 s e [120] ln co=.ok (c0 bI,s):=by
 unfold G3;rw[hx];dsimp only;rw[Np (.inr ⟨1,rfl,h.one⟩)];rfl
theorem oH{b:BX}{t:T1}{c:lU}{n:Int}(h:HD b t c)(hn:∀p∈b,p.1<n) :
   FT b (gA k) (.con Dv (t.cons (T1.var n).one))=if c=Jt k then .ok ((n,c0 (TP k))::b) else .error 11:=by
 have ht:(t.cons (T1.var n).one).hd=t:=by cases t <;> rfl
 have hl:((t.cons (T1.var n).one).app .nil).tl=(T1.var n).one:=by cases t <;> rfl
 have hh:((t.cons (T1.var n).one).app .nil).hd=t:=by cases t <;> rfl
 have hc:((t.cons (T1.var n).one).len:Int)=2:=by cases t <;> rfl
 have hv:Ai b (.var n)=.var n:=bM (fQ hn);show (if !(Dv==Dv)||((2:Int) != ((t.cons (T1.var n).one).len:Int)) then Except.error 11 else IL 9999 b (.con (Jt k) .nil (.con (TP k) .nil .nil)) ((t.cons (T1.var n).one).app .nil))=_;rw[hc,if_neg (by decide)];show Jl (IL 9998) b (.con (Jt k) .nil) (Ai b ((t.cons (T1.var n).one).app .nil).hd) (.con (TP k) .nil .nil) ((t.cons (T1.var n).one).app .nil).tl=_;rw[hh,hl,h.head];show (if !(Jt k==c)||((0:Int) != 0) then Except.error 11 else IL 9998 b (.con (TP k) .nil .nil) (T1.var n).one)=_
 by_cases hk:c=Jt k
 · rw[if_pos hk,if_neg (by simp[hk])]
   show Jl (IL 9997) b (.con (TP k) .nil) (Ai b (.var n)) .nil .nil=_;rw[hv];rfl
 · rw[if_neg hk,if_pos (by simp;exact λh=>hk h.symm)]
theorem SG.bind{s:CS}(h:SG s)(hf:1≤s.fresh)(t:lU):SG {s with fresh:=s.fresh+1,sol:=(s.fresh+1,c0 t)::s.sol}:=by
 refine⟨?_,λp hp=>?_⟩
 · show (if s.fresh+1==1 then some (c0 t) else Ce s.sol 1)=_
   rw[if_neg (by simp;omega)];exact h.one
 · rcases List.mem_cons.1 hp with rfl|hp
   · exact Int.le_refl _
   · have:=h.le p hp;show p.1≤s.fresh+1;omega
theorem XN:∀{b:BX}{n:Int}{t:T1},Ce b n=some t→(n,t)∈b
 | [],_,_,h=>by cases h
 |p::b,n,t,h=>by
   replace h:(if p.1==n then some p.2 else Ce b n)=some t:=h
   split at h
   · rename_i hp;have:p.1=n:=by simpa using hp
     cases h;rw[← this];exact .head _
   · exact .tail _ (XN h)
theorem SG.ge{s:CS}(h:SG s):1≤s.fresh:=h.le _ (XN h.one)
def wK(s:CS)(r:RI (T1×CS)):Option lU→Prop
 |some c=>∃t b f,r=.ok (t,{s with sol:=b,fresh:=f})∧HD b t c∧SG {s with sol:=b,fresh:=f}
 |none=>∃er:Er,r=.error er∧er.2.2=11
theorem KO(n:Nat)(s:CS)(e:Bt)(op ln co:Int)(tx:lU)(nm:Int)(kids:Nd):BP (n+1) s e op ln co tx nm kids=(match Bb n (BP n) s e op ln co tx kids with
       |.error x=>.error x
       |.ok (t,s1)=>match Fh s1 t ln co with
         |.error x=>.error x
         |.ok _=>.ok (t,s1)):=by rw[BP];rfl
theorem eQ(n:Nat)(f:Ly)(s:CS)(e:Bt)(ln co:Int)(tx:lU)(kids:Nd):Bb n f s e 5 ln co tx kids=G3 s e tx ln co:=by
 unfold Bb;simp
theorem qJ(n:Nat)(f:Ly)(s:CS)(e:Bt)(ln co:Int)(tx:lU)(o l c:Int)(x:lU)(m:Int)(k r:Nd):Bb n f s e 8 ln co tx (.cons o l c x m k r)=(match f s e o l c x m k with
     |.error x=>.error x
     |.ok (t,s1)=>Kb f e s1 t r):=by
 unfold Bb;simp;rfl
theorem iV{e:Bt}(hx:Ix e [120]=some ⟨[120],.var 1,[]⟩)(hp:∀k,Ix e (Dx k)=some ⟨Dx k,gA k,[aI]⟩) :
   ∀(ks:List Nat)(n:Nat)(s:CS)(op ln co:Int)(tx:lU)(nm:Int)(kids:Nd),ks.length<n→rF ks op tx kids→SG s →
     wK s (BP n s e op ln co tx nm kids) (Um ks):=by
 intro ks
 induction ks with
 |nil =>
   intro n s op ln co tx nm kids hn hc hs
   cases n with
   |zero=>cases hn
   |succ n =>
     obtain⟨rfl,rfl⟩:=hc;rw[KO,eQ,lN hs hx];exact⟨c0 bI,s.sol,s.fresh,rfl,.inl rfl,hs⟩
 |cons k ks ih =>
   intro n s op ln co tx nm kids hn hc hs;obtain⟨n,rfl⟩:∃m,n=m+2:=⟨n-2,by simp at hn;omega⟩;obtain⟨rfl,l1,c1,m1,k1,o2,l2,c2,x2,m2,k2,rfl,hc⟩:=hc;replace ih:=ih (n+1) s o2 l2 c2 x2 m2 k2 (by simp at hn;omega) hc hs
   have hf:BP (n+1) s e 5 l1 c1 (Dx k) m1 k1=.ok (gA k,s):=by
     rw[KO,eQ,mM (hp k)];unfold Fh;dsimp only;rw[Tl]
   rw[KO,qJ,hf];dsimp only;unfold Kb
   cases hq:Um ks with
   |none =>
     rw[hq] at ih;obtain⟨er,h1,h2⟩:=ih;rw[h1];have e1:Um (k::ks)=none:=by unfold Um;rw[hq];rfl
     rw[e1];exact⟨er,rfl,h2⟩
   |some c =>
     rw[hq] at ih;obtain⟨t,b,f,h1,h2,h3⟩:=ih;have hu:=oH (k:=k) (n:=f+1) h2 λp hp=>by have:=h3.le p hp;dsimp only at this;omega
     rw[h1];dsimp only[AB];unfold FJ;dsimp only;rw[hu]
     by_cases hk:c=Jt k
     · have e1:Um (k::ks)=some (TP k):=by unfold Um;rw[hq,hk];exact if_pos rfl
       rw[e1,if_pos hk];have h4:=h3.bind h3.ge (TP k);have h5:HD ((f+1,c0 (TP k))::b) (.var (f+1)) (TP k):=.inr ⟨_,rfl,by show (if f+1==f+1 then _ else _)=_;rw[if_pos (by simp)]⟩;refine⟨.var (f+1),(f+1,c0 (TP k))::b,f+1,?_,h5,h4⟩;dsimp only[Kb];rw[Np h5]
     · have e1:Um (k::ks)=none:=by unfold Um;rw[hq];exact if_neg λh=>hk (Option.some.inj h)
       rw[e1,if_neg hk];exact⟨_,rfl,rfl⟩
theorem HD.small{b:BX}{t:T1}{c:lU}(h:HD b t c)(k:Nat)(r:Ty):FG b (k+1) (t.cons r)=FG b k r:=by
 rcases h with rfl|⟨n,rfl,hl⟩
 · rfl
 · show (match Ai b (.var n) with|.var _=>FG b k r|.con _ ks=>FG b k (ks.app r))=_
   rw[show Ai b (.var n)=_ from QX hl];rfl
theorem HD.fulls{b:BX}{t:T1}{c:lU}(h:HD b t c)(k:Nat)(r:Ty):AP b (k+1) (t.cons r)=.con c (AP b k .nil) (AP b k r):=by
 rcases h with rfl|⟨n,rfl,hl⟩
 · rfl
 · show (match Ai b (.var n) with|.var m=>Ty.var m (AP b k r)|.con tx ks=>.con tx (AP b k ks) (AP b k r))=_
   rw[show Ai b (.var n)=_ from QX hl]
theorem dU{b:BX}{t u:T1}{c d:lU}(h:HD b t c)(h':HD b u d):CL b (.con Dv (t.cons u.one))=some (.con Dv ((c0 c).cons (c0 d).one)):=by
 have e0:(t.cons u.one).app .nil=t.cons (u.cons .nil):=by cases t <;> cases u <;> rfl
 have e1:FD b (.con Dv (t.cons u.one))=true:=by
   show FG b 999 ((t.cons u.one).app .nil)=true;rw[e0,h.small 998,h'.small 997];rfl
 show (if FD b (.con Dv (t.cons u.one)) then some (AP b 1000 (T1.con Dv (t.cons u.one)).one).hd else none)=_;rw[if_pos e1];show some (Ty.con Dv (AP b 999 (t.cons (u.cons .nil))) .nil).hd=_;rw[h.fulls 998,h'.fulls 997];rfl
theorem R3:∀(ks:List Nat){op:Int}{tx:lU}{kids:Nd},rF ks op tx kids→ks.length≤kids.size
 | [],_,_,_,_=>Nat.zero_le _
 |k::ks,op,tx,kids,h=>by
   obtain⟨_,l1,c1,m1,k1,o2,l2,c2,x2,m2,k2,rfl,hc⟩:=h;have:=R3 ks hc;simp only[Nd.size,List.length_cons];omega
def dO:BX:=[(3,c0 bI),(2,.con Dv ((c0 bI).cons (c0 bI).one)),(1,c0 bI)]
def R7:Bt:=⟨[120],.var 1,[]⟩::La
theorem bE(n:Nat)(l4 c4:Int)(t4:lU)(m4 l5 c5 m5:Int)(k5:Nd)(l6 c6 m6:Int)(k6:Nd)(l7 c7:Int)(t7:lU)(m7:Int)(k7:Nd) :
   BP (n+2) {OE with fresh:=1} R7 8 l4 c4 t4 m4 (.cons 5 l5 c5 [43] m5 k5 (.cons 5 l6 c6 [120] m6 k6 (.cons 1 l7 c7 t7 m7 k7 .nil)))=.ok (.var 3,{OE with fresh:=3,sol:=dO}):=by
 kernel_rfl
theorem xL:SG {OE with fresh:=3,sol:=dO}:=⟨rfl,dC⟩
theorem iT:∀k,Ix R7 (Dx k)=some ⟨Dx k,gA k,[aI]⟩
 |0=>by kernel_rfl
 |1=>by kernel_rfl
 |2=>by kernel_rfl
 |3=>by kernel_rfl
 |n+4=>by
   show Ix R7 [105,116,111,97]=some ⟨[105,116,111,97],.con Dv ((c0 bI).cons (c0 bS).one),[aI]⟩
   kernel_rfl
def mX(r:RI (List (lU×lU))):Option lU→Prop
 |some c=>r=.ok [([102],[40,45,62,32,105,110,116,32]++c++[41])]
 |none=>∃er:Er,r=.error er∧er.2.2=11
theorem gW(ks:List Nat)(l c nm l1 c1:Int)(t1:lU)(m1 l2 c2 m2:Int)(k2:Nd)(l3 c3:Int)(t3:lU)(m3 l4 c4:Int)(t4:lU)(m4 l5 c5 m5:Int)(k5:Nd)(l6 c6 m6:Int)(k6:Nd)(l7 c7:Int)(t7:lU)(m7:Int)(k7:Nd)(op l8 c8:Int)(x8:lU)(m8:Int)(k8:Nd)(hc:rF ks op x8 k8) :
   mX (DQ (.cons 44 l c [102] nm (.cons 7 l1 c1 t1 m1 (.cons 22 l2 c2 [120] m2 k2 (.cons 12 l3 c3 t3 m3 (.cons 8 l4 c4 t4 m4 (.cons 5 l5 c5 [43] m5 k5 (.cons 5 l6 c6 [120] m6 k6 (.cons 1 l7 c7 t7 m7 k7 .nil))) (.cons op l8 c8 x8 m8 k8 .nil)) .nil)) .nil) .nil)) (Um ks):=by
 obtain⟨N,hN⟩:∃N,(Nd.cons 22 l2 c2 [120] m2 k2 (.cons 12 l3 c3 t3 m3 (.cons 8 l4 c4 t4 m4 (.cons 5 l5 c5 [43] m5 k5 (.cons 5 l6 c6 [120] m6 k6 (.cons 1 l7 c7 t7 m7 k7 .nil))) (.cons op l8 c8 x8 m8 k8 .nil)) .nil)).size+1=N+4∧ks.length<N+2:=by
   have:=R3 ks hc;refine⟨k2.size+(k5.size+(k6.size+(k7.size+(k8.size+4)))),?_,oM⟩;simp only[Nd.size];omega
 obtain⟨hN,hk⟩:=hN;have h1:=iV (e:=R7) rfl iT ks (N+2) _ op l8 c8 x8 m8 k8 hk hc xL
 have hb:Bb (N+3) (BP (N+3)) OE La 7 l1 c1 t1 (.cons 22 l2 c2 [120] m2 k2 (.cons 12 l3 c3 t3 m3 (.cons 8 l4 c4 t4 m4 (.cons 5 l5 c5 [43] m5 k5 (.cons 5 l6 c6 [120] m6 k6 (.cons 1 l7 c7 t7 m7 k7 .nil))) (.cons op l8 c8 x8 m8 k8 .nil)) .nil)) =
     (match BP (N+3) {OE with fresh:=1} R7 12 l3 c3 t3 m3 (.cons 8 l4 c4 t4 m4 (.cons 5 l5 c5 [43] m5 k5 (.cons 5 l6 c6 [120] m6 k6 (.cons 1 l7 c7 t7 m7 k7 .nil))) (.cons op l8 c8 x8 m8 k8 .nil)) with
       |.error x=>.error x
       |.ok (t,s1)=>.ok (HO (.var 1 (.snoc .nil t)),s1)):=by unfold Bb;simp;rfl
 have hs:Bb (N+2) (BP (N+2)) {OE with fresh:=1} R7 12 l3 c3 t3 (.cons 8 l4 c4 t4 m4 (.cons 5 l5 c5 [43] m5 k5 (.cons 5 l6 c6 [120] m6 k6 (.cons 1 l7 c7 t7 m7 k7 .nil))) (.cons op l8 c8 x8 m8 k8 .nil)) =
     (match BP (N+2) {OE with fresh:=3,sol:=dO} R7 op l8 c8 x8 m8 k8 with
       |.error x=>.error x
       |.ok (t,s1)=>.ok (t,s1)):=by
   have hp:=bE N l4 c4 t4 m4 l5 c5 m5 k5 l6 c6 m6 k6 l7 c7 t7 m7 k7;unfold Bb;simp only[Fi,hp];simp
   cases BP (N+2) {OE with fresh:=3,sol:=dO} R7 op l8 c8 x8 m8 k8 with
   |error e=>rfl
   |ok x=>obtain⟨t,s1⟩:=x;cases t <;> rfl
 have ht:DQ (.cons 44 l c [102] nm (.cons 7 l1 c1 t1 m1 (.cons 22 l2 c2 [120] m2 k2 (.cons 12 l3 c3 t3 m3 (.cons 8 l4 c4 t4 m4 (.cons 5 l5 c5 [43] m5 k5 (.cons 5 l6 c6 [120] m6 k6 (.cons 1 l7 c7 t7 m7 k7 .nil))) (.cons op l8 c8 x8 m8 k8 .nil)) .nil)) .nil) .nil) =
     (match BP (N+4) OE La 7 l1 c1 t1 m1 (.cons 22 l2 c2 [120] m2 k2 (.cons 12 l3 c3 t3 m3 (.cons 8 l4 c4 t4 m4 (.cons 5 l5 c5 [43] m5 k5 (.cons 5 l6 c6 [120] m6 k6 (.cons 1 l7 c7 t7 m7 k7 .nil))) (.cons op l8 c8 x8 m8 k8 .nil)) .nil)) with
       |.error x=>.error x
       |.ok (t,s1)=>match GL s1 La [102] t true l c with
         |.error x=>.error x
         |.ok _=>Lh s1 [([102],t)]):=by
   unfold DQ Gr Ej;simp only[hN];simp
   cases BP (N+4) OE La 7 l1 c1 t1 m1 (.cons 22 l2 c2 [120] m2 k2 (.cons 12 l3 c3 t3 m3 (.cons 8 l4 c4 t4 m4 (.cons 5 l5 c5 [43] m5 k5 (.cons 5 l6 c6 [120] m6 k6 (.cons 1 l7 c7 t7 m7 k7 .nil))) (.cons op l8 c8 x8 m8 k8 .nil)) .nil)) with
   |error e=>rfl
   |ok x =>
     obtain⟨t,s1⟩:=x;dsimp only;have hv:C0 (N+4) 7 (.cons 22 l2 c2 [120] m2 k2 (.cons 12 l3 c3 t3 m3 (.cons 8 l4 c4 t4 m4 (.cons 5 l5 c5 [43] m5 k5 (.cons 5 l6 c6 [120] m6 k6 (.cons 1 l7 c7 t7 m7 k7 .nil))) (.cons op l8 c8 x8 m8 k8 .nil)) .nil))=true:=rfl;rw[hv]
     cases GL s1 La [102] t true l c <;> rfl
 cases hq:Um ks with
 |none =>
   rw[hq] at h1;obtain⟨er,h1,h2⟩:=h1;exact⟨er,by rw[ht,KO,hb,KO,hs,h1],h2⟩
 |some d =>
   rw[hq] at h1;obtain⟨t,b,f,h1,h2,h3⟩:=h1;have e1:HO (.var 1 (.snoc .nil t))=.con Dv (T1.cons (.var 1) t.one):=by rcases h2 with rfl|⟨n,rfl,_⟩ <;> rfl
   have e2:=dU (.inr ⟨1,rfl,h3.one⟩) h2;show DQ _=.ok _;rw[ht,KO,hb,KO,hs,h1];dsimp only;rw[Np h2];dsimp only;rw[e1];have e4:∀l c,Fh {OE with sol:=b,fresh:=f} (.con Dv (T1.cons (.var 1) t.one)) l c=.ok (.con Dv ((c0 bI).cons (c0 d).one)):=λ_ _=>by unfold Fh;rw[show CL ({OE with sol:=b,fresh:=f}:CS).sol _=_ from e2]
   have e5:M8 (.con Dv ((c0 bI).cons (c0 d).one))=[40,45,62,32,105,110,116,32]++d++[41]:=by
     show [40]++Dv++(32::(bI++(32::(d++[]))))++[41]++[]=_;simp[Dv,bI]
   dsimp only at e4 ⊢;rw[e4];dsimp only;unfold GL;rw[e4];dsimp only;unfold Lh;rw[e4];show Except.ok [([102],M8 (.con Dv ((c0 bI).cons (c0 d).one)))]=_;rw[e5]
end Go.SP
namespace Go.SP
open Go.SW Go.RowKit
def EB(w:lU):AM:=⟨5,0,0,0,w⟩
abbrev oT:AM:=⟨0,0,0,0,[]⟩
abbrev cT:AM:=⟨1,0,0,0,[]⟩
theorem I3(r:lU):HM (40::r)=(HM r).map (oT :: ·):=by rw[Iw];rfl
theorem He(r:lU):HM (41::r)=(HM r).map (cT :: ·):=by rw[Iw];rfl
theorem II(r:lU):HM (32::r)=HM r:=by
 rw[Iw];have:nT (32::r)=some ([],r):=rfl;rw[this];simp
def aH:List Nat→lU
 | []=>[120]
 |k::ks=>[40]++Dx k++[32]++aH ks++[41]
def Js:List Nat→List AM
 | []=>[EB [120]]
 |k::ks=>oT::EB (Dx k)::(Js ks++[cT])
def XD:List Nat→AM×Fo
 | []=>(EB [120],.nil)
 |k::ks=>(oT,.cons (EB (Dx k)) .nil (.cons (XD ks).1 (XD ks).2 .nil))
def W4:List Nat→N
 | []=>⟨5,0,0,[120],0,.nil⟩
 |k::ks=>⟨8,0,0,[],0,.cons 5 0 0 (Dx k) 0 .nil (W4 ks).one⟩
theorem aX(k:Nat)(r:lU):HM (Dx k++32::r)=(HM (32::r)).map (EB (Dx k) :: ·):=by
 have h:∀(c:UInt8)(w:lU),nT (c::w++32::r)=some ([EB (c::w)],32::r)→HM (c::w++32::r)=(HM (32::r)).map (EB (c::w) :: ·):=λc w h=>by
   rw[List.cons_append] at h ⊢;rw[Iw,h];rfl
 match k with
 |0=>exact h 105 [116,111,97] kR
 |1=>exact h 108 [101,110] kR
 |2=>exact h 110 [101,103] kR
 |3=>exact h 105 [116,111,102] kR
 |n+4=>exact h 105 [116,111,97] kR
theorem S2:∀(ks:List Nat)(r:lU),HM (aH ks++41::r)=(HM (41::r)).map (Js ks ++ ·)
 | [],r=>by
   have h:nT (120::41::r)=some ([EB [120]],41::r):=kR;show HM (120::41::r)=_;rw[Iw,h];rfl
 |k::ks,r=>by
   have e:aH (k::ks)++41::r=40::(Dx k++32::(aH ks++41::41::r)):=by simp[aH]
   rw[e,I3,aX,II,S2 ks,He]
   cases HM (41::r) <;> simp[Js]
theorem SQ:∀(ks:List Nat)(r:List AM)(st:List (AM×Fo))(cur:Fo),st.length+ks.length≤200→AR (Js ks++r) st cur=AR r st (cur.snoc (XD ks).1 (XD ks).2)
 | [],r,st,cur,_=>rfl
 |k::ks,r,st,cur,h=>by
   have e:Js (k::ks)++r=oT::EB (Dx k)::(Js ks++cT::r):=by simp[Js]
   simp only[List.length_cons] at h;rw[e];show (if st.length==200 then _ else AR (Js ks++cT::r) ((oT,cur)::st) (.cons (EB (Dx k)) .nil .nil))=_;rw[if_neg (by simp;omega),SQ ks _ _ _ (by simp only[List.length_cons];omega)];rfl
theorem eA(k:Nat):KF (Dx k)=false∧(EB (Dx k)).isVar=true :=
 match k with
 |0=>by decide +kernel
 |1=>by decide +kernel
 |2=>by decide +kernel
 |3=>by decide +kernel
 |_+4=>by show KF [105,116,111,97]=false∧(EB [105,116,111,97]).isVar=true;decide +kernel
theorem Rp:∀(ks:List Nat)(n:Nat),ks.length<n→By n (XD ks).1 (XD ks).2=.ok (W4 ks)
 | [],n+1,_=>by
   show need (EB [120]) (EB [120]).isVar _=_;rw[show (EB [120]).isVar=true by decide +kernel];rfl
 |k::ks,n+2,h=>by
   have ih:=Rp ks (n+1) (by simp at h;omega);obtain⟨h1,h2⟩:=eA k
   have hn:By (n+1) (EB (Dx k)) .nil=.ok ⟨5,0,0,Dx k,0,.nil⟩:=by
     show need (EB (Dx k)) (EB (Dx k)).isVar _=_;rw[h2];rfl
   have he:AN (By (n+1)) (.cons (EB (Dx k)) .nil (.cons (XD ks).1 (XD ks).2 .nil))=.ok (.cons 5 0 0 (Dx k) 0 .nil (W4 ks).one):=by
     simp only[AN,hn,ih];rfl
   show (if (true&&KF (Dx k))=true then _ else need oT true (match AN (By (n+1)) (.cons (EB (Dx k)) .nil (.cons (XD ks).1 (XD ks).2 .nil)) with|.error e=>.error e|.ok ks=>.ok (Az oT 8 [] ks)))=_;rw[h1,if_neg (by decide),he];rfl
def VJ:lU:=[40,100,101,102,32,102,32,40,102,110,32,40,120,41,32,40,115,101,113,32,40,43,32,120,32,48,41,32]
def Ht(ks:List Nat):lU:=VJ++aH ks++[41,41,41]
def dQ:List AM:=[oT,EB [100,101,102],EB [102],oT,EB [102,110],oT,EB [120],cT,oT,EB [115,101,113],oT,EB [43],EB [120],⟨2,0,0,0,[]⟩,cT]
theorem M9{c:UInt8}{l r:lU}{t:List AM}(h:nT (c::l)=some (t,r)):HM (c::l)=(HM r).map (t ++ ·):=by rw[Iw,h]
theorem iP(r:lU):HM (VJ++r)=(HM r).map (dQ ++ ·):=by
 have d0:∀r,HM (100::101::102::32::r)=(HM (32::r)).map ([EB [100,101,102]] ++ ·):=λr=>M9 kR;have d1:∀r,HM (102::32::r)=(HM (32::r)).map ([EB [102]] ++ ·):=λr=>M9 kR;have d2:∀r,HM (102::110::32::r)=(HM (32::r)).map ([EB [102,110]] ++ ·):=λr=>M9 kR;have d3:∀r,HM (120::41::r)=(HM (41::r)).map ([EB [120]] ++ ·):=λr=>M9 kR;have d4:∀r,HM (115::101::113::32::r)=(HM (32::r)).map ([EB [115,101,113]] ++ ·):=λr=>M9 kR;have d5:∀r,HM (43::32::r)=(HM (32::r)).map ([EB [43]] ++ ·):=λr=>M9 kR;have d6:∀r,HM (120::32::r)=(HM (32::r)).map ([EB [120]] ++ ·):=λr=>M9 kR;have d7:∀r,HM (48::41::r)=(HM (41::r)).map ([⟨2,0,0,0,[]⟩] ++ ·):=λr=>M9 kR;show HM (40::100::101::102::32::102::32::40::102::110::32::40::120::41::32::40::115::101::113::32::40::43::32::120::32::48::41::32::r)=_;rw[I3,d0,II,d1,II,I3,d2,II,I3,d3,He,II,I3,d4,II,I3,d5,II,d6,II,d7,He,II]
 cases HM r <;> rfl
def sC:List AM:=[cT,cT,cT]
theorem cN(ks:List Nat):HM (Ht ks)=some (dQ++(Js ks++sC)):=by
 have e:Ht ks=VJ++(aH ks++41::[41,41]):=by simp[Ht]
 rw[e,iP,S2,He,He,He,bZ];rfl
def Sy:N:=⟨8,0,0,[],0,.cons 5 0 0 [43] 0 .nil (.cons 5 0 0 [120] 0 .nil (.cons 1 0 0 [] 0 .nil .nil))⟩
def I0:Fo:=.cons (EB [43]) .nil (.cons (EB [120]) .nil (.cons ⟨2,0,0,0,[]⟩ .nil .nil))
def Zg(a:N):Nd:=.cons 44 0 0 [102] 0 (.cons 7 0 0 [] 0 (.cons 22 0 0 [120] 0 .nil (.cons 12 0 0 [] 0 (.cons 8 0 0 [] 0 Sy.kids a.one) .nil)) .nil) .nil
theorem bW{t:AM}{k:Fo}{a:N}(h:By 198 t k=.ok a) :
   AN (CA 200) (.cons oT (.cons (EB [100,101,102]) .nil (.cons (EB [102]) .nil (.cons oT (.cons (EB [102,110]) .nil (.cons oT (.cons (EB [120]) .nil .nil) (.cons oT (.cons (EB [115,101,113]) .nil (.cons oT I0 (.cons t k .nil))) .nil))) .nil))) .nil)=.ok (Zg a):=by
 have h1:By 198 oT I0=.ok Sy:=kR
 have h2:By 199 oT (.cons (EB [115,101,113]) .nil (.cons oT I0 (.cons t k .nil)))=.ok (Az oT 12 [] (Sy.cons a.one)):=by
   have he:AN (By 198) (.cons oT I0 (.cons t k .nil))=.ok (Sy.cons a.one):=by simp only[AN,h1,h];rfl
   have e:By 199 oT (.cons (EB [115,101,113]) .nil (.cons oT I0 (.cons t k .nil)))=(match AN (By 198) (.cons oT I0 (.cons t k .nil)) with|.error e=>.error e|.ok ks=>.ok (Az oT 12 [] ks)):=kR;rw[e,he]
 have h3:By 200 oT (.cons (EB [102,110]) .nil (.cons oT (.cons (EB [120]) .nil .nil) (.cons oT (.cons (EB [115,101,113]) .nil (.cons oT I0 (.cons t k .nil))) .nil)))=.ok ⟨7,0,0,[],0,.cons 22 0 0 [120] 0 .nil (Az oT 12 [] (Sy.cons a.one)).one⟩:=by
   have e:By 200 oT (.cons (EB [102,110]) .nil (.cons oT (.cons (EB [120]) .nil .nil) (.cons oT (.cons (EB [115,101,113]) .nil (.cons oT I0 (.cons t k .nil))) .nil)))=(match By 199 oT (.cons (EB [115,101,113]) .nil (.cons oT I0 (.cons t k .nil))) with|.error e=>.error e|.ok x=>.ok (Az oT 7 [] (.cons 22 0 0 [120] 0 .nil x.one))):=kR;rw[e,h2];rfl
 have e:AN (CA 200) (.cons oT (.cons (EB [100,101,102]) .nil (.cons (EB [102]) .nil (.cons oT (.cons (EB [102,110]) .nil (.cons oT (.cons (EB [120]) .nil .nil) (.cons oT (.cons (EB [115,101,113]) .nil (.cons oT I0 (.cons t k .nil))) .nil))) .nil))) .nil) =
     (match (match By 200 oT (.cons (EB [102,110]) .nil (.cons oT (.cons (EB [120]) .nil .nil) (.cons oT (.cons (EB [115,101,113]) .nil (.cons oT I0 (.cons t k .nil))) .nil))) with|.error e=>.error e|.ok x=>.ok (Az oT 44 [102] x.one):R N) with|.error e=>.error e|.ok a=>.ok (a.cons .nil)):=kR
 rw[e,h3];rfl
variable {nm:Int}{ks:List Nat}
theorem bN(h:ks.length≤100):pO 200 (Ht ks)=some (Zg (W4 ks)):=by
 unfold pO;rw[cN]
 have ht:AR (dQ++(Js ks++sC)) [] .nil=.ok (.cons oT (.cons (EB [100,101,102]) .nil (.cons (EB [102]) .nil (.cons oT (.cons (EB [102,110]) .nil (.cons oT (.cons (EB [120]) .nil .nil) (.cons oT (.cons (EB [115,101,113]) .nil (.cons oT I0 (.cons (XD ks).1 (XD ks).2 .nil))) .nil))) .nil))) .nil):=by
   show AR (Js ks++sC) [(oT,.cons (EB [102,110]) .nil (.cons oT (.cons (EB [120]) .nil .nil) .nil)),(oT,.cons (EB [100,101,102]) .nil (.cons (EB [102]) .nil .nil)),(oT,.nil)] (.cons (EB [115,101,113]) .nil (.cons oT I0 .nil))=_;rw[SQ ks _ _ _ (by simp only[List.length_cons,List.length_nil];omega)];rfl
 show (match Nb 200 (dQ++(Js ks++sC)) with|.error _=>none|.ok x=>some x)=_;unfold Nb;rw[ht];dsimp only;rw[bW (Rp ks 198 (by omega))]
theorem C4{n:Nd}{op:Int}{tx:lU}{k r:Nd}(h:n.er=.cons op 0 0 tx nm k r):∃ln co k' r',n=.cons op ln co tx nm k' r'∧k'.er=k∧r'.er=r:=by
 cases n with
 |nil=>cases h
 |cons op' ln co tx' nm' k' r' =>
   simp only[Nd.er,Nd.cons.injEq,true_and] at h;obtain⟨rfl,rfl,rfl,h1,h2⟩:=h;exact⟨ln,co,k',r',rfl,h1,h2⟩
theorem FU{n:Nd}(h:n.er=.nil):n=.nil:=by
 cases n with
 |nil=>rfl
 |cons=>cases h
theorem Zm:∀(ks:List Nat){n:Nd},n.er=(W4 ks).one→∃op ln co tx nm k,n=.cons op ln co tx nm k .nil∧rF ks op tx k
 | [],n,h=>by
   obtain⟨ln,co,k,r,rfl,h1,h2⟩:=C4 h
   cases FU h2
   exact⟨5,ln,co,[120],0,k,rfl,rfl,rfl⟩
 |k::ks,n,h=>by
   obtain⟨ln,co,k',r,rfl,h1,h2⟩:=C4 h
   cases FU h2
   obtain⟨l1,c1,k1,r1,rfl,_,h3⟩:=C4 h1;obtain⟨o2,l2,c2,x2,m2,k2,rfl,h4⟩:=Zm ks h3;exact⟨8,ln,co,[],0,_,rfl,rfl,l1,c1,0,k1,o2,l2,c2,x2,m2,k2,rfl,h4⟩
theorem mE{n:Nd}(h:n.er=Zg (W4 ks)):mX (DQ n) (Um ks):=by
 obtain⟨_,_,_,_,rfl,a1,b1⟩:=C4 h
 cases FU b1
 obtain⟨_,_,_,_,rfl,a2,b2⟩:=C4 a1
 cases FU b2
 obtain⟨_,_,_,_,rfl,_,a3⟩:=C4 a2;obtain⟨_,_,_,_,rfl,a4,b4⟩:=C4 a3
 cases FU b4
 obtain⟨_,_,_,_,rfl,a5,a6⟩:=C4 a4;obtain⟨_,_,_,_,_,_,rfl,hc⟩:=Zm ks a6;obtain⟨_,_,_,_,rfl,_,a7⟩:=C4 a5;obtain⟨_,_,_,_,rfl,_,a8⟩:=C4 a7;obtain⟨_,_,_,_,rfl,_,a9⟩:=C4 a8
 cases FU a9
 apply gW;exact hc
end Go.SP
namespace Go.Proofs.YtegedalegfadgaaGreatDoor
open Go.SW Go.SP Go.RowKit
def kK(x:Int):Nat:=((IntKind.u64.wrap x).tmod 4).toNat
def Il(l:List Int)(i:Nat):List Nat:=((l.take i).map kK).reverse
theorem Qn(l:List Int)(i:Nat):(Il l i).length≤i:=by unfold Il;simp;omega
variable {ks:List Nat}{i:Nat}
theorem Gp{l:List Int}{x:Int}(h:l[i]?=some x):Il l (i+1)=kK x::Il l i:=by
 unfold Il;rw[D1 h];simp
theorem LL:∀ks:List Nat,(aH ks).length≤7*ks.length+1
 | []=>Nat.le_refl _
 |k::ks=>by
   have h:=LL ks
   have hk:(Dx k).length≤4:=match k with
     |0=>by decide
     |1=>by decide
     |2=>by decide
     |3=>by decide
     |_+4=>by show 4≤4;decide
   simp only[aH,List.length_append,List.length_cons,List.length_nil];omega
theorem Ta(h:ks.length≤100):mX (GG (Ht ks)) (Um ks):=by
 have hl:(Ht ks).length≤65536:=by
   have:=LL ks;simp only[Ht,List.length_append,VJ,List.length_cons,List.length_nil];omega
 have hp:=(Zk 200 (Ht ks) hl).1 _ (bN h);rw[Tp (src:=Ht ks) hp.2];exact mE hp.1
theorem YE(h:ks.length≤100)(hf:Hr ks=true):GG (Ht ks)=.ok [([102],[40,45,62,32,105,110,116,32]++QD ks++[41])]:=by
 have:=Ta h;rw[Uv,hf] at this;exact this
theorem ZR(h:ks.length≤100)(hf:Hr ks=false):∃e1 e2,GG (Ht ks)=.error (e1,e2,11):=by
 have:=Ta h;rw[Uv,hf] at this;obtain⟨⟨e1,e2,e3⟩,h1,h2⟩:=this;exact⟨e1,e2,by rw[h1];rw[show e3=11 from h2]⟩
theorem oU(x:Int):0≤(IntKind.u64.wrap x).tmod 4:=Int.tmod_nonneg _ (by
 simp only[IntKind.wrap,IntKind.signed,IntKind.bits];simp;omega)
theorem aD(x:Int):(IntKind.u64.wrap x).tmod 4=(kK x:Int):=by
 have:=oU x;unfold kK;omega
theorem pK(x:Int):kK x<4:=by
 have:=Int.tmod_lt_of_pos (IntKind.u64.wrap x) (show (0:Int)<4 by omega);have:=aD x;omega
theorem Ro:∀ks:List Nat,(QD ks).length≤6
 | []=>by decide
 |0::_=>by show 6≤6;decide
 |1::_=>by show 3≤6;decide
 |2::_=>by show 3≤6;decide
 |3::_=>by show 5≤6;decide
 |(_+4)::_=>by show 6≤6;decide
theorem Gd{a b:Int}(h:(a==b)=true):a=b:=eq_of_beq h
theorem Fg{a b:Int}(h:(a==b)=false):a≠b:=ne_of_beq_false h
end Go.Proofs.YtegedalegfadgaaGreatDoor
namespace Go.Proofs.YtegedalegfadgaaGreatDoor
open Go.SW Go.SP Go.RowKit Go.Proofs.Tryz
def xI:Eh:=⟨[(32,1,1)],[(22,3,1),(24,32,2)],[],[],[(3,false,1),(26,true,2),(9,false,1)],[(26,[.int .i64 0,.int .i64 0])],[],[]⟩
theorem Dh:xI.Ok prog:=⟨(And.intro PU tQ),(And.intro KD (And.intro Z1 tQ)),tQ,tQ,(And.intro Dd (And.intro Db (And.intro GX tQ))),(And.intro VO tQ),tQ,tQ⟩
variable {src:lU}
theorem SA{t:lU}(h:GG src=.ok [([102],t)])(w:World)(f:Fq)(hv:Vl w f)(hJ:D5 w f)(hG:FA w f):BC prog 4 #[S src] w (BW (α:=Option Addr×Nat) (λx=>.tuple #[.slice x.1 1 x.2,.agg #[.int .i64 0,.int .i64 0],.int .i64 0]) (λ_=>True) (λx=>[λw f=>O1 w f [([102],t)] x.1 x.2]) w f):=by
 have h1:=Jn w f hv hJ hG src;rw[h] at h1;exact h1
theorem SR{e1 e2:Int}(h:GG src=.error (e1,e2,11))(w:World)(f:Fq)(hv:Vl w f)(hJ:D5 w f)(hG:FA w f):BC prog 4 #[S src] w (BW (α:=Option Addr×Nat) (λx=>.tuple #[.slice x.1 0 x.2,.agg #[.int .i64 e1,.int .i64 e2],.int .i64 11]) (λ_=>True) (λx=>[λw f=>O1 w f [] x.1 x.2]) w f):=by
 have h1:=Jn w f hv hJ hG src;rw[h] at h1;exact h1
theorem SH(w:World)(f:Fq)(hv:Vl w f)(hJ:D5 w f)(hG:FA w f)(l:List Int)(a:Option Addr)(c:Nat)(hI:B7 w f l a c) :
   BC prog 3 #[.slice a l.length c] w (BW (α:=Unit) (λ_=>.bool true) (λ_=>True) (λ_=>[]) w f):=by
 refine Dl (X:=X0 w f) (H:=[]) (R:=[]) (B:=[]) (Fs:=[λw f=>D5 w f,λw f=>FA w f,λw f=>B7 w f l a c]) (f:=f) func3 rfl rfl rfl (C8 hv ⟨hJ,hG,hI,tQ⟩ ⟨D5.mono,FA.mono,B7.mono,tQ⟩)<|go Dh 23 [] (λ_=>?_);refine HK (α:=Nat) (λi=>l.length-i) (λi=>i≤l.length∧i≤20) (λi=>(E5 0 (.slice a l.length c) 3 (S (aH (Il l i))) 4 (S (QD (Il l i))) 5 (.bool (Hr (Il l i))) 6 (.int .i64 (i:Int)))) (λi=>X0 w f) (λi=>[]) (λi=>[]) (λi=>[]) (λi=>[λw f=>D5 w f,λw f=>FA w f,λw f=>B7 w f l a c]) (0) ⟨oM,oM⟩ lE (λw f hM=>hM) ?_;rintro i ⟨hi,hi2⟩;refine go Dh 8 [] (λ_=>Ba 17 rfl rfl (λh1=>?_) (λh1=>?_));refine go Dh 5 [] (λ_=>Ba 20 rfl rfl (λh2=>?_) (λh2=>?_));refine go Dh 6 [] (λ_=>?_);have hil:i<l.length:=by have:=of_decide_eq_true h1;omega
 have hi20:i<20:=by have:=of_decide_eq_true h2;omega
 obtain⟨v0,hx⟩:∃v,l[i]?=some v:=⟨_,List.getElem?_eq_getElem hil⟩;have hkv:=aD v0;have hk4:=pK v0;have hcl:=LL (Il l i);have hkl:=Qn l i;refine go Dh 8 [] (λ_=>C6 (α:=Nat×Nat) (λx=>a=some ⟨x.1,x.2,none⟩) (λx=>[⟨x.1,x.2+i*1,[.int .i64 v0]⟩]) (λx=>[]) (λw f hM=>let ⟨b,off,h1,h2⟩:=B7.get hM.f2 hx;⟨(b,off),h1,oE h2,nE⟩) (λx=>Af.mem tQ) ?_);rintro⟨b,off⟩ rfl;refine go Dh 5 [100,0] (And.intro oM<|y2<|λ_=>EU rfl rfl (λw f hM=>D3 (m:=_) rfl bD (rfl))<|EU rfl rfl (λw f hM=>dK (kK v0:Int) rfl rfl dC hkv)<|EU rfl rfl (λw f hM=>D3 (m:=(kK v0:Int)) rfl dZ (Ji ⟨oM,oM⟩))<|go Dh 9 [] (λ_=>Ba 30 rfl rfl (λh3=>?_) (λh3=>?_)));refine go Dh 12 [] (λ_=>Ba 37 rfl rfl (λh4=>?_) (λh4=>?_));refine go Dh 25 [] (And.intro (by simp <;> omega)<|And.intro (by simp <;> omega)<|And.intro (by simp <;> omega)<|And.intro (by simp <;> omega)<|And.intro ⟨oM,oM⟩<|λ_=>?_);have hkn:kK v0=1:=by have:=Gd h3;omega
 have hks:Il l (i+1)=1::Il l i:=by rw[Gp hx,hkn]
 exact DM (i+1) (show l.length-(i+1)<l.length-i by omega) ⟨oM,oM⟩ (aO rfl (by rw[hks];rfl) (by rw[hks];rfl) (by rw[hks];show _=some (Value.bool (Hr (Il l i)&&_));rw[h4];rfl) rfl) (λw f hM=>⟨_,hM.less sR sR nE (λ_ h=>h)⟩);refine go Dh 25 [] (And.intro (by simp <;> omega)<|And.intro (by simp <;> omega)<|And.intro (by simp <;> omega)<|And.intro (by simp <;> omega)<|And.intro ⟨oM,oM⟩<|λ_=>?_);have hkn:kK v0=1:=by have:=Gd h3;omega
 have hks:Il l (i+1)=1::Il l i:=by rw[Gp hx,hkn]
 exact DM (i+1) (show l.length-(i+1)<l.length-i by omega) ⟨oM,oM⟩ (aO rfl (by rw[hks];rfl) (by rw[hks];rfl) (by rw[hks];show _=some (Value.bool (Hr (Il l i)&&_));rw[h4];rfl) rfl) (λw f hM=>⟨_,hM.less sR sR nE (λ_ h=>h)⟩);refine go Dh 7 [] (λ_=>Ba 32 rfl rfl (λh5=>?_) (λh5=>?_));refine go Dh 12 [] (λ_=>Ba 37 rfl rfl (λh6=>?_) (λh6=>?_));refine go Dh 25 [] (And.intro (by simp <;> omega)<|And.intro (by simp <;> omega)<|And.intro (by simp <;> omega)<|And.intro (by simp <;> omega)<|And.intro ⟨oM,oM⟩<|λ_=>?_);have hkn:kK v0=2:=by have:=Gd h5;omega
 have hks:Il l (i+1)=2::Il l i:=by rw[Gp hx,hkn]
 exact DM (i+1) (show l.length-(i+1)<l.length-i by omega) ⟨oM,oM⟩ (aO rfl (by rw[hks];rfl) (by rw[hks];rfl) (by rw[hks];show _=some (Value.bool (Hr (Il l i)&&_));rw[h6];rfl) rfl) (λw f hM=>⟨_,hM.less sR sR nE (λ_ h=>h)⟩);refine go Dh 25 [] (And.intro (by simp <;> omega)<|And.intro (by simp <;> omega)<|And.intro (by simp <;> omega)<|And.intro (by simp <;> omega)<|And.intro ⟨oM,oM⟩<|λ_=>?_);have hkn:kK v0=2:=by have:=Gd h5;omega
 have hks:Il l (i+1)=2::Il l i:=by rw[Gp hx,hkn]
 exact DM (i+1) (show l.length-(i+1)<l.length-i by omega) ⟨oM,oM⟩ (aO rfl (by rw[hks];rfl) (by rw[hks];rfl) (by rw[hks];show _=some (Value.bool (Hr (Il l i)&&_));rw[h6];rfl) rfl) (λw f hM=>⟨_,hM.less sR sR nE (λ_ h=>h)⟩);refine go Dh 7 [] (λ_=>Ba 34 rfl rfl (λh7=>?_) (λh7=>?_));refine go Dh 12 [] (λ_=>Ba 37 rfl rfl (λh8=>?_) (λh8=>?_));refine go Dh 25 [] (And.intro (by simp <;> omega)<|And.intro (by simp <;> omega)<|And.intro (by simp <;> omega)<|And.intro (by simp <;> omega)<|And.intro ⟨oM,oM⟩<|λ_=>?_);have hkn:kK v0=3:=by have:=Gd h7;omega
 have hks:Il l (i+1)=3::Il l i:=by rw[Gp hx,hkn]
 exact DM (i+1) (show l.length-(i+1)<l.length-i by omega) ⟨oM,oM⟩ (aO rfl (by rw[hks];rfl) (by rw[hks];rfl) (by rw[hks];show _=some (Value.bool (Hr (Il l i)&&_));rw[h8];rfl) rfl) (λw f hM=>⟨_,hM.less sR sR nE (λ_ h=>h)⟩);refine go Dh 25 [] (And.intro (by simp <;> omega)<|And.intro (by simp <;> omega)<|And.intro (by simp <;> omega)<|And.intro (by simp <;> omega)<|And.intro ⟨oM,oM⟩<|λ_=>?_);have hkn:kK v0=3:=by have:=Gd h7;omega
 have hks:Il l (i+1)=3::Il l i:=by rw[Gp hx,hkn]
 exact DM (i+1) (show l.length-(i+1)<l.length-i by omega) ⟨oM,oM⟩ (aO rfl (by rw[hks];rfl) (by rw[hks];rfl) (by rw[hks];show _=some (Value.bool (Hr (Il l i)&&_));rw[h8];rfl) rfl) (λw f hM=>⟨_,hM.less sR sR nE (λ_ h=>h)⟩);refine go Dh 8 [] (λ_=>Ba 37 rfl rfl (λh9=>?_) (λh9=>?_));refine go Dh 25 [] (And.intro (by simp <;> omega)<|And.intro (by simp <;> omega)<|And.intro (by simp <;> omega)<|And.intro (by simp <;> omega)<|And.intro ⟨oM,oM⟩<|λ_=>?_);have hkn:kK v0=0:=by have:=Fg h3;have:=Fg h5;have:=Fg h7;omega
 have hks:Il l (i+1)=0::Il l i:=by rw[Gp hx,hkn]
 exact DM (i+1) (show l.length-(i+1)<l.length-i by omega) ⟨oM,oM⟩ (aO rfl (by rw[hks];rfl) (by rw[hks];rfl) (by rw[hks];show _=some (Value.bool (Hr (Il l i)&&_));rw[h9];rfl) rfl) (λw f hM=>⟨_,hM.less sR sR nE (λ_ h=>h)⟩);refine go Dh 25 [] (And.intro (by simp <;> omega)<|And.intro (by simp <;> omega)<|And.intro (by simp <;> omega)<|And.intro (by simp <;> omega)<|And.intro ⟨oM,oM⟩<|λ_=>?_);have hkn:kK v0=0:=by have:=Fg h3;have:=Fg h5;have:=Fg h7;omega
 have hks:Il l (i+1)=0::Il l i:=by rw[Gp hx,hkn]
 exact DM (i+1) (show l.length-(i+1)<l.length-i by omega) ⟨oM,oM⟩ (aO rfl (by rw[hks];rfl) (by rw[hks];rfl) (by rw[hks];show _=some (Value.bool (Hr (Il l i)&&_));rw[h9];rfl) rfl) (λw f hM=>⟨_,hM.less sR sR nE (λ_ h=>h)⟩);refine go Dh 3 [] (λ_=>GR<|go Dh 3 [] (λ_=>?_));have hcl:=LL (Il l i);have hkl:=Qn l i;have hnl:=Ro (Il l i);refine Ba 5 rfl rfl (λh10=>?_) (λh10=>?_);have hty:=YE (ks:=Il l i) oM h10;refine go Dh 4 [] (And.intro (by simp <;> omega)<|And.intro (by simp <;> omega)<|λ_=>BA rfl rfl (eC Pg rfl rfl) (λw f hM=>SA hty w f hM.vl hM.f0 hM.f1) (λ_=>⟨O1.mono,tQ⟩) ?_);rintro⟨ba,bc⟩ -;refine C6 (α:=Nat×Nat) (λx=>ba=some ⟨x.1,x.2,none⟩) (λx=>[⟨x.1,x.2,[S [102],S ([40,45,62,32,105,110,116,32]++QD (Il l i)++[41])]⟩]) (λx=>[]) (λw f hM=>let ⟨x,h1,h2⟩:=O1.opn hM.f0 (List.cons_ne_nil _ _);⟨x,h1,oE h2,nE⟩) (λx=>Af.mem tQ) ?_;rintro⟨eb,eo⟩ rfl;refine go Dh 12 [0] (λb1=>y<|λ_=>BA rfl rfl (eC V6 rfl rfl) (λw f hM=>HP w f hM.vl hM.f1 hM.f2) (λ_=>trivial) ?_);rintro⟨⟩ -;refine go Dh 4 [] (λ_=>EU rfl rfl (λw f hM=>NB VZ rfl rfl)<|go Dh 9 [] (λ_=>Ba 71 rfl rfl (λh11=>?_) (λh11=>?_)));exact go Dh 15 [100,1] (And.intro oM<|y2<|And.intro (by simp <;> omega)<|And.intro (by simp <;> omega)<|λ_=>Bc (DI rfl rfl) (λw f hM=>⟨(),f,(by simp),tQ,hM.exm,tQ⟩));exact go Dh 15 [] (λ_=>absurd h11 dC);obtain⟨e1,e2,hty⟩:=ZR (ks:=Il l i) oM h10;refine go Dh 4 [] (And.intro (by simp <;> omega)<|And.intro (by simp <;> omega)<|λ_=>BA rfl rfl (eC Pg rfl rfl) (λw f hM=>SR hty w f hM.vl hM.f0 hM.f1) (λ_=>⟨O1.mono,tQ⟩) ?_);rintro⟨ba,bc⟩ -;refine go Dh 12 [0] (λb2=>y<|λ_=>BA rfl rfl (eC V6 rfl rfl) (λw f hM=>HP w f hM.vl hM.f1 hM.f2) (λ_=>trivial) ?_);rintro⟨⟩ -;exact go Dh 4 [] (λ_=>EU rfl rfl (λw f hM=>NB VZ rfl rfl)<|go Dh 24 [] (λ_=>Bc (DI rfl rfl) (λw f hM=>⟨(),f,(by simp),tQ,hM.exm,tQ⟩)));refine go Dh 8 [] (λ_=>GR<|go Dh 3 [] (λ_=>?_));have hcl:=LL (Il l i);have hkl:=Qn l i;have hnl:=Ro (Il l i);refine Ba 5 rfl rfl (λh12=>?_) (λh12=>?_);have hty:=YE (ks:=Il l i) oM h12;refine go Dh 4 [] (And.intro (by simp <;> omega)<|And.intro (by simp <;> omega)<|λ_=>BA rfl rfl (eC Pg rfl rfl) (λw f hM=>SA hty w f hM.vl hM.f0 hM.f1) (λ_=>⟨O1.mono,tQ⟩) ?_);rintro⟨ba,bc⟩ -;refine C6 (α:=Nat×Nat) (λx=>ba=some ⟨x.1,x.2,none⟩) (λx=>[⟨x.1,x.2,[S [102],S ([40,45,62,32,105,110,116,32]++QD (Il l i)++[41])]⟩]) (λx=>[]) (λw f hM=>let ⟨x,h1,h2⟩:=O1.opn hM.f0 (List.cons_ne_nil _ _);⟨x,h1,oE h2,nE⟩) (λx=>Af.mem tQ) ?_;rintro⟨eb,eo⟩ rfl;refine go Dh 12 [0] (λb3=>y<|λ_=>BA rfl rfl (eC V6 rfl rfl) (λw f hM=>HP w f hM.vl hM.f1 hM.f2) (λ_=>trivial) ?_);rintro⟨⟩ -;refine go Dh 4 [] (λ_=>EU rfl rfl (λw f hM=>NB VZ rfl rfl)<|go Dh 9 [] (λ_=>Ba 71 rfl rfl (λh13=>?_) (λh13=>?_)));exact go Dh 15 [100,1] (And.intro oM<|y2<|And.intro (by simp <;> omega)<|And.intro (by simp <;> omega)<|λ_=>Bc (DI rfl rfl) (λw f hM=>⟨(),f,(by simp),tQ,hM.exm,tQ⟩))
 exact go Dh 15 [] (λ_=>absurd h13 dC);obtain⟨e1,e2,hty⟩:=ZR (ks:=Il l i) oM h12;refine go Dh 4 [] (And.intro (by simp <;> omega)<|And.intro (by simp <;> omega)<|λ_=>BA rfl rfl (eC Pg rfl rfl) (λw f hM=>SR hty w f hM.vl hM.f0 hM.f1) (λ_=>⟨O1.mono,tQ⟩) ?_);rintro⟨ba,bc⟩ -;refine go Dh 12 [0] (λb4=>y<|λ_=>BA rfl rfl (eC V6 rfl rfl) (λw f hM=>HP w f hM.vl hM.f1 hM.f2) (λ_=>trivial) ?_);rintro⟨⟩ -;exact go Dh 4 [] (λ_=>EU rfl rfl (λw f hM=>NB VZ rfl rfl)<|go Dh 24 [] (λ_=>Bc (DI rfl rfl) (λw f hM=>⟨(),f,(by simp),tQ,hM.exm,tQ⟩)))
end Go.Proofs.YtegedalegfadgaaGreatDoor
namespace Go.Proofs.YtegedalegfadgaaGreatDoor.Chains
open Go.SW Go.SP Go.RowKit Go.Lib Go.ChangeShapes Go.WideShapes Go.ChangeAt Go.ChangeMaps
set_option maxRecDepth 100000 in
theorem Yt(H:Type)(enc:TypeId×Value→H)(W:World)(base:Nat)(args:Array Value)(ds gs:List (DataW H))(before:List MemPlace)
   (hval:∀(j:Nat) t v,Tryz.f3.params[j]?=some t→args[j]?=some v→Value.okWide Tryz.prog W .any base t v)
   (hW:DataW.Whole enc Tryz.prog Tryz.f3.params.toList Rows.inferChainsSpec.vars false W args.toList ds gs before) (hL:laidMetH Tryz.prog Rows.inferChainsRow.laid W) (hS:W.ShapedOpen Tryz.prog) :
   Calls Tryz.prog 3 args W λe W'=>∃v,e=.returned v∧Rows.inferChainsSpec.post enc Tryz.prog Tryz.f3 false true false false W args v W':=by
 have hW':=hW;obtain⟨p,q,hA0,hV,rfl,hfz,hnd⟩:=hW;have hA:DataW.TrodAll enc Tryz.prog W 0 (λ_=>true) true Tryz.f3.params.toList args.toList ds p:=hA0;rw[Tryz.params3] at hA hval;obtain⟨v0,vs0,d0,ds0,p0,q0,hargs0,rfl,rfl,h0,r0⟩:=trodAll_cons hA;obtain⟨rfl,rfl,rfl⟩:=trodAll_nil r0
 obtain rfl:args=#[v0]:=by
   obtain⟨l⟩:=args;exact congrArg Array.mk (hargs0)
 obtain⟨rfl,rfl⟩:=trodVars_none hV;obtain⟨x0,a0,c0,rfl,hI0,hT0⟩:=X5 Tryz.underlying22 Tryz.underlying3 kR (hval 0 22 v0 rfl rfl) h0;clear hA0;simp only[List.append_nil] at hW';refine Calls.mono (ZI (SH W (cH W) (jW W) (eY hL hS).1 (eY hL hS).2 x0 a0 c0 hI0)) ?_;rintro e W' ⟨v,rfl,rfl,hb⟩;exact⟨_,rfl,_,_,_,[],_,[],hW',trodAll_cons_mk (shut_bool Tryz.underlying4 _) trodAll_mk0,trodAll_cons_mk (hT0 _ _ hb) trodAll_mk0,rfl,hb.frame _,λh=>by cases h⟩
noncomputable def lw(os:Os):World:=World.laidAll Tryz.prog os Rows.inferChainsRow.laid
theorem YX(os:Os):laidMetH Tryz.prog Rows.inferChainsRow.laid ((lw os).forCall (λ_ _=>0) ⟨#[],#[Value.slice none 0 0],[]⟩).memory:=by
 rw[MakeChecks.laidMetH_plain _ _ _ (by kernel_rfl)];exact laidMet_laidAll _ kR kR
theorem reads(os:Os){H:Type}(enc:TypeId×Value→H):∃places,DataW.whole enc Tryz.prog ((lw os).forCall (λ_ _=>0) ⟨#[],#[Value.slice none 0 0],[]⟩).memory Tryz.f3.params.toList Rows.inferChainsSpec.vars false (#[Value.slice none 0 0]:Array Value).toList 8=some ([.nil],[],places) :=
 ⟨[],kR⟩
set_option maxRecDepth 100000 in
theorem lifted(os:Os)(started:os.Started)(H:Type)(enc:TypeId×Value→H)(F:Stop.Interp) :
   ReturnsInHanded {} Tryz.checked os 3 .any ((OpenSpec.ofChange Rows.inferChainsSpec).preRow enc Tryz.prog Tryz.f3 Rows.inferChainsRow.domain false Rows.inferChainsRow.laid) (((OpenSpec.ofChange Rows.inferChainsSpec).at F).post enc Tryz.prog Tryz.f3 false true false false):=by
 obtain⟨places,hx⟩:=reads os enc
 refine returnsInHanded_of_row (C:=Tryz.checked) (s:=OpenSpec.ofChange Rows.inferChainsSpec) own started kR Tryz.func3
   ⟨lw os,λ_ _=>0,⟨#[],#[Value.slice none 0 0],[]⟩,World.laidAll_os _ _ _,World.shaped_of_ZipB kR kR,rfl,(Input.okWide_of_okWideB kR).2,
     OpenSpec.preRow_of_cond 8 hx kR (λk hk=>by cases hk) kR (YX os),by simp[Assume.holds]⟩ ?_
 intro W base args ds gs before hval hW _ _ _ hL hS _;exact Yt H enc W base args ds gs before hval hW hL hS
abbrev jc:=Rows.inferChainsRow
abbrev js:=(OpenSpec.ofChange Rows.inferChainsSpec).bare
theorem jT{a b:Bool}(h:a=true)(k:b=true):(a&&b)=true:=by rw[h,k];rfl
theorem jL{a b:Bool}(h:(a&&b)=true):a=true:=((Bool.and_eq_true a b).mp h).1
theorem jR{a b:Bool}(h:(a&&b)=true):b=true:=((Bool.and_eq_true a b).mp h).2
theorem j0:((jc.wf (OpenSpec.ofChange js))&&(laidOutB Tryz.pinned.checked.prog)&&(mapsRowed Tryz.pinned.checked.prog)&&(Tryz.f3.params.all (Tryz.pinned.checked.prog.readableRec ·))&&(namedTie Tryz.pinned.checked.prog jc.named js.vars)&&((jc.stops==[]))&&((Tryz.pinned.checked.prog.stops==[]))&&((jc.knobs==[]))&&((Tryz.pinned.checked.prog.stopKnobs==[])))=true:=kR
theorem j1:(((jc.inPlace==Tryz.pinned.checked.prog.inPlace 3))&&((jc.unfollowed==Tryz.pinned.checked.prog.unfollowed 3))&&((jc.recurses==Tryz.pinned.checked.prog.recurses 3))&&((jc.named==Tryz.pinned.checked.prog.varsNamed 3)))=true:=kR
theorem j2:(((jc.maps==(Tryz.f3.params.toList++js.plain.varTypes Tryz.pinned.checked.prog).any (Tryz.pinned.checked.prog.mapsRec ·)))&&((jc.ifaces==(Tryz.f3.params.toList++js.plain.varTypes Tryz.pinned.checked.prog).any (Tryz.pinned.checked.prog.ifacesRec ·)))&&((jc.mapsOut==Tryz.pinned.checked.prog.mapsAmong Tryz.f3.resultTypes.toList))&&((jc.loops==(Tryz.f3.params.toList++js.plain.varTypes Tryz.pinned.checked.prog).any (Tryz.pinned.checked.prog.loopsFrom ·)))&&((jc.wideKeys==(Tryz.f3.params.toList++js.plain.varTypes Tryz.pinned.checked.prog++Tryz.f3.resultTypes.toList).any (Tryz.pinned.checked.prog.wideKeysFrom ·)))&&(js.vars.all (Tryz.pinned.checked.prog.varReadable ·)))=true:=kR
theorem j3:((Tryz.f3.resultTypes.all (λt=>Tryz.pinned.checked.prog.readableRec t&&decide (t < Tryz.pinned.checked.prog.types.size)))&&((jc.ifacesOut==Tryz.f3.resultTypes.toList.any (Tryz.pinned.checked.prog.ifacesRec ·)))&&((jc.loopsOut==Tryz.f3.resultTypes.toList.any (Tryz.pinned.checked.prog.loopsFrom ·)))&&((jc.plainKeys==Tryz.pinned.checked.prog.plainKeys))&&(jc.shortTexts.isNone)&&(Tryz.pinned.checked.prog.stopsHeard)&&(Tryz.pinned.checked.prog.mayEnter)&&((jc.lifted==Tryz.pinned.checked.prog.liftsFinal))&&((Tryz.pinned.checked.prog.make==some jc.make))&&((jc.kinds==(if jc.domain.isEmpty then [] else Tryz.f3.params.toList.map λt=>match Tryz.pinned.checked.prog.underlying t with|some (.int k)=>some k|_=>none)))&&((jc.pinned==jc.pinnedBy))&&((jc.veiled==(Tryz.f3.params.toList++js.plain.varTypes Tryz.pinned.checked.prog++Tryz.f3.resultTypes.toList).any (Tryz.pinned.checked.prog.veiledRec ·)))&&(jc.veiledFits Tryz.pinned.checked.prog Tryz.f3.params.toList (Tryz.f3.params.toList++js.plain.varTypes Tryz.pinned.checked.prog++Tryz.f3.resultTypes.toList)))=true:=kR
set_option maxRecDepth 100000 in
theorem uF:joinedFacts Tryz.pinned.checked.prog 3 Tryz.f3 (OpenSpec.ofChange Rows.inferChainsSpec).bare Rows.inferChainsRow=true:=(jT (jT (jT (jT (jT (jT (jT (jT (jT (jT (jT (jT (jT (jT (jT (jT (jT (jT (jT (jT (jT (jT (jT (jT (jT (jT (jT (jT (jT (jT (jT (jL (jL (jL (jL (jL (jL (jL (jL j0)))))))) (jR (jL (jL (jL (jL (jL (jL (jL j0))))))))) (jR (jL (jL (jL (jL (jL (jL j0)))))))) (jR (jL (jL (jL (jL (jL j0))))))) (jR (jL (jL (jL (jL j0)))))) (jR (jL (jL (jL j0))))) (jR (jL (jL j0)))) (jR (jL j0))) (jR j0)) (jL (jL (jL j1)))) (jR (jL (jL j1)))) (jR (jL j1))) (jR j1)) (jL (jL (jL (jL (jL j2)))))) (jR (jL (jL (jL (jL j2)))))) (jR (jL (jL (jL j2))))) (jR (jL (jL j2)))) (jR (jL j2))) (jR j2)) (jL (jL (jL (jL (jL (jL (jL (jL (jL (jL (jL (jL j3))))))))))))) (jR (jL (jL (jL (jL (jL (jL (jL (jL (jL (jL (jL j3))))))))))))) (jR (jL (jL (jL (jL (jL (jL (jL (jL (jL (jL j3)))))))))))) (jR (jL (jL (jL (jL (jL (jL (jL (jL (jL j3))))))))))) (jR (jL (jL (jL (jL (jL (jL (jL (jL j3)))))))))) (jR (jL (jL (jL (jL (jL (jL (jL j3))))))))) (jR (jL (jL (jL (jL (jL (jL j3)))))))) (jR (jL (jL (jL (jL (jL j3))))))) (jR (jL (jL (jL (jL j3)))))) (jR (jL (jL (jL j3))))) (jR (jL (jL j3)))) (jR (jL j3))) (jR j3))
theorem said:Rows.InferChainsSaid :=
 OpenClaim.holds_of_cond 3 Tryz.f3 rfl rfl rfl rfl rfl rfl rfl ⟨rfl,rfl,rfl,rfl,rfl⟩ rfl rfl rfl rfl rfl kR Tryz.func3 uF
   (of_decide_eq_true kR) (by unfold Func.isWrapper;first|(rw[if_pos (by decide +kernel)];kernel_rfl)|(rw[if_neg (by decide +kernel)];exact⟨rfl,rfl⟩))
   (λos started H enc _ F=>by rw[OpenClaim.pre_eq_preRow];exact lifted os started H enc F)
theorem plain(f:FuncId)(fn:Func)(hf:Tryz.pinned.checked.prog.funcNamed Rows.inferChainsRow.func=some f)(hfn:Tryz.pinned.checked.prog.funcs[f]?=some fn) :
   true=Tryz.pinned.checked.prog.looks []∧∀(j:Nat) t,fn.params[j]?=some t→Tryz.pinned.checked.prog.wantsStandIn t=false:=by
 obtain rfl:f=3:=Option.some.inj ((show Tryz.prog.funcNamed Rows.inferChainsRow.func=some 3 by kernel_rfl).symm.trans hf) |>.symm;obtain rfl:fn=Tryz.f3:=(Option.some.inj (Tryz.func3.symm.trans hfn)).symm;refine⟨kR,λj t ht=>?_⟩;rw[Tryz.params3] at ht;have hm:=Array.mem_of_getElem? ht;have ht2:t=22:=by simpa using hm
 rcases ht2 with rfl
 · exact (show Tryz.prog.wantsStandIn 22=false by kernel_rfl)
end Go.Proofs.YtegedalegfadgaaGreatDoor.Chains
namespace Go.Proofs.YtegedalegfadgaaGreatDoor
theorem chains_card:Rows.InferChainsCardSaid :=
 Claim7.holds_tied_plain_at .later [] _ _ _ _ Chains.said (λ_ h=>by cases h) kR (λ_ h=>by cases h) inferChains_row_tie rfl ⟨rfl,rfl⟩ kR rfl Chains.plain kR
end Go.Proofs.YtegedalegfadgaaGreatDoor
