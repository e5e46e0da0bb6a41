/- What it rests on, part 6. -/
import Derived.Test.YtplnpgpagkpnmaaGreatDoorGb5
import Derived.Test.YtplnpgpagkpnmaaGreatDoorCards
import Derived.Test.YtplnpgpagkpnmaaGreatDoorTie
import Derived.OpenShut
import Derived.Lib.LaidU8
import Derived.Clock
import Derived.ProofKit
import Derived.Lay
import Derived.Stop.Joined
import Derived.Deep.DeepHandedRow
set_option linter.unusedVariables false
set_option linter.unusedSimpArgs false
namespace Go.Proofs.YtplnpgpagkpnmaaGreatDoor
open Go.SW Go.SP Go.RowKit Go.Proofs.Tryz
theorem eG:∀i,i≤8→D1 (⟨[],0,Zw i,[],[],-1⟩:CS)
 |0,_=>⟨tQ,λ_ _ h=>(by cases h),tQ,tQ,tQ,Int.le_refl _⟩
 |i+1,h=>by
  obtain⟨⟨nm,F,G,J⟩,d⟩:∃v,H8[i]?=some v:=⟨_,List.getElem?_eq_getElem (l:=H8) (by have:H8.length=8:=rfl;omega)⟩;have D:=Sy d;rw[O8 d];exact (eG i oM).addCons (O4 i oM _ d) ⟨by rw[L4];dsimp only;omega,NF _,CN (Tj d),Nat.zero_le _⟩
theorem wfc0:D1 jA:=eG 8 (Nat.le_refl _)
theorem envB0:FN Rx:=by
 rw[← Sd];intro b d;unfold Kv at d;rw[List.take_length,List.mem_reverse] at d;obtain⟨p,h,rfl⟩:=List.mem_map.1 d;exact⟨IY (F7 (B8 _)) (Oq p h),by dsimp only[ZH];decide⟩
theorem XG(w:wO)(f:Fq)(D:Vl w f)(tx:lU)(t:T1)(b:Nat)(F:Ae w f t.one (some ⟨b,0,none⟩) 1) :
  AO prog 42 #[S tx,.slice (some ⟨b,0,none⟩) 1 1] w (AF (α:=oA×Nat) (λx=>tV (.con tx t.one) x.1 x.2) (λ_=>True) (λx=>[λw f=>Ae w f t.one x.1 x.2]) w f):=by
 have d:t.one.len=1:=by cases t <;> rfl
 have h:=CC w f D tx t.one (some ⟨b,0,none⟩) 1 (by rw[d];decide) F;rwa[d] at h
variable {σ:AW}{f f':Fq}{a:oA}{v2 v4 x3 y3:Value}{w w':wO}
theorem MN{nds:Nd}{b2 b3 b4:Nat}(K:b2≠b3∧b2≠b4∧b3≠b4){fn:Func}(L:fn.results=#[.cell 2 25,.cell 3 27,.cell 4 28])(O:σ 2=some (pB b2))(Q:σ 3=some (pB b3))(U:σ 4=some (pB b4)){er:Er}(hm:ER nds=.error er)(F:C6 (λ_=>False) w f w' f')
  (k2:AE w' b2 [v2] 25∧f' b2=0∧(true=true→w.heap.size≤b2)) (k3:AE w' b3 [x3,y3] 27∧f' b3=0∧(true=true→w.heap.size≤b3)) (k4:AE w' b4 [v4] 28∧f' b4=0∧(true=true→w.heap.size≤b4))
  (tmps:Array Value) (D:∀t,t∈[2,3,4]→∀v,σ t=some v→tmps.getD t undef=v):Leaves prog fn tmps (λe w'=>∃v,e=.returned v∧XN nds w f v w') [{target:=.fn (.func 35) ([pB b2,pB b3,pB b4]:lV).toArray,args:=#[]}] (.panicking (trI 114 er)) w':=by
 refine Fj (by simp) aA (UC w' f' F.val b2 b3 b4 v2 x3 y3 v4 k2.1 k3.1 k4.1 ⟨k2.2.1,k3.2.1,k4.2.1⟩ K er) λwz hz=>?_;rw[KE];obtain⟨f3,W,z2,z3,z4⟩:=hz;refine DF (σ:=AD (E2 2 (pB b2) 3 (pB b3)) 4 (pB b4)) (λt v d=>?_) (Ez L (CZ C aW z2 C) (Ac C FH z3 C) (CZ C Gc z4 C)) ⟨_,C,f3,C6.trans0 F W (λb Y=>?_),by rw[hm]⟩
 ·
  by_cases e4:t=4
  · subst e4;exact D 4 (by simp) v (U.trans d)
  by_cases G:t=3
  · subst G;exact D 3 (by simp) v (Q.trans d)
  by_cases J:t=2
  · subst J;exact D 2 (by simp) v (O.trans d)
  have n4:Nat.beq t 4=false:=by cases h:Nat.beq t 4 with|false=>rfl|true=>exact absurd (Nat.eq_of_beq_eq_true h) e4
  have n3:Nat.beq t 3=false:=by cases h:Nat.beq t 3 with|false=>rfl|true=>exact absurd (Nat.eq_of_beq_eq_true h) G
  have Z:Nat.beq t 2=false:=by cases h:Nat.beq t 2 with|false=>rfl|true=>exact absurd (Nat.eq_of_beq_eq_true h) J
  simp[AD,Go.SW.e0,Z,n3,n4] at d
 ·
  rcases Y with rfl|rfl|rfl
  · exact k2.2.2 C
  · exact k3.2.2 C
  · exact k4.2.2 C
theorem idone{nds:Nd}{b2 b3 b4:Nat}{fn:Func}(G:fn.results=#[.cell 2 25,.cell 3 27,.cell 4 28])(J:σ 2=some (pB b2))(K:σ 3=some (pB b3))(L:σ 4=some (pB b4)){d:List (lU×lU)}(hm:ER nds=.ok d)(D:C6 (λ_=>False) w f w' f'){c:Nat}(O:MB w' f' d a c)
  (k2:AE w' b2 [.slice a d.length c] 25) (k3:AE w' b3 [iV 0,iV 0] 27) (k4:AE w' b4 [iV 0] 28)
  (tmps:Array Value) (Q:∀t v,σ t=some v→tmps.getD t undef=v):Leaves prog fn tmps (λe w'=>∃v,e=.returned v∧XN nds w f v w') [{target:=.fn (.func 35) ([pB b2,pB b3,pB b4]:lV).toArray,args:=#[]}] .returning w':=by
 refine Fj (by simp) aA (SK w' b2 b3 b4) λW hz=>?_;have F:=C6.of_ext hz D.val;refine DF Q (Ez G (CZ J aW (k2.ext hz) C) (Ac K FH (k3.ext hz) C) (CZ L Gc (k4.ext hz) C)) ⟨_,C,f',C6.trans0 D F (λb U=>U.elim),?_⟩;rw[hm];exact⟨a,c,C,MB.mono _ _ _ _ O (F.fle D.val (λ_ h=>h.elim))⟩
set_option maxHeartbeats 2000000 in
theorem VX(w:wO)(f:Fq)(hv:Vl w f)(hG:EY w f)(nds:Nd)(na:oA)(nc:Nat)(hwt:nds.wft)(hsz:nds.size≤200000)(htb:nds.txb)(hN:AJ w f nds na nc) :
  AO prog 10 #[.slice na nds.len nc] w (XN nds w f):=by
 have hkl0:=Nd.len_le nds;refine wK (K:=[2,3,4]) (X:=X0 w f) (H:=[]) (R:=[]) (B:=[]) (Fs:=[λw f=>AJ w f nds na nc,λw f=>EY w f]) (f:=f) func10 C C C (AR hv ⟨hN,hG,tQ⟩ ⟨AJ.mono,EY.mono,tQ⟩)<|Aa 8 (λb1=>λb2=>λb3=>λ_=>IF (p:=b1≠b2∧b1≠b3∧b2≠b3) (λw f D=>by have L:=D.nd;simp[CD] at L;exact⟨λe=>L.2 e.symm,λe=>L.1.2 e.symm,λe=>L.1.1 e.symm⟩) λhn=>Aa 1 (λ_=>Cz C C (λw f D=>VD C)<|mdf C C<|Aa 4 (λ_=>iY (XX:=λ_ _=>False) C C (eC sY C C) (λw f D=>(Wt w f D.vl D.f1).retP) (λ_=>Aq.stab) (λ_=>⟨AV.mono,tQ⟩) (λ_ _ _ _ _ h=>h.elim) ?_)));rintro⟨A,ea⟩ hA;dsimp only at hA ⊢;refine Aa 21 (λ_=>KR 103 2<|KR 123 4 ?_);refine D6 (α:=Nat×Nd×List (lU×T1)×lV×oA×Nat×oA×Nat×By×oA×CS) (λx=>x.2.1.len) (λx=>x.1+x.2.1.len=nds.len∧Gi jA Rx nds []=Gi x.2.2.2.2.2.2.2.2.2.2 x.2.2.2.2.2.2.2.2.1 x.2.1 x.2.2.1∧x.2.2.1.length≤x.1∧(F3 x.2.2.1).bnd∧FN x.2.2.2.2.2.2.2.2.1∧x.2.1.wft∧x.2.1.txb∧D1 x.2.2.2.2.2.2.2.2.2.2∧x.2.1.size≤nds.size∧x.2.2.2.2.2.2.2.2.2.2.fresh+200002*x.2.1.size≤200002*nds.size∧x.2.1.size-(nds.size:Int)-1≤x.2.2.2.2.2.2.2.2.2.2.vars∧x.2.2.2.2.2.2.2.2.2.2.vars≤0) (λx=>(E9 2 (pB b1) 3 (pB b2) 4 (pB b3) 5 (pB A.cb) 6 (.pointer x.2.2.2.2.2.2.2.2.2.1) 7 (.slice x.2.2.2.2.1 x.2.2.1.length x.2.2.2.2.2.1) 19 (.slice na nds.len nc) 20 (iV (nds.len:Int)) 21 (iV (x.1:Int)))) (λx=>⟨λ_=>False,B2 A,Aq 131 222 A x.2.2.2.2.2.2.2.2.2.2,w,f⟩) (λx=>[⟨b3,[iV 0],28,true⟩,⟨b2,[iV 0,iV 0],27,true⟩,⟨b1,[.slice x.2.2.2.2.2.2.1 x.2.2.1.length x.2.2.2.2.2.2.2.1],25,true⟩]) (λx=>[⟨123,4,x.2.2.2.2.1,x.2.2.2.2.2.1,x.2.2.1.length,x.2.2.2.1⟩,⟨103,2,x.2.2.2.2.2.2.1,x.2.2.2.2.2.2.2.1,x.2.2.1.length,bC (Wo x.2.2.1)⟩]) (λx=>[]) (λx=>[λw f=>Bc w f na x.1 x.2.1,λw f=>AU w f (F3 x.2.2.1) x.2.2.2.1,λw f=>AV w f x.2.2.2.2.2.2.2.2.1 x.2.2.2.2.2.2.2.2.2.1,λw f=>EY w f]) (0,nds,[],[],none,0,none,0,Rx,ea,jA) ⟨Nat.zero_add _,C,Nat.le_refl _,tQ,envB0,hwt,htb,wfc0,Nat.le_refl _,by dsimp only[jA];omega,by dsimp only[jA];omega,(by decide:(-1:Int)≤0)⟩ lE (λw f D=>D.more (B':=[]) (F':=[λw f=>Bc w f na 0 nds,λw f=>AU w f .nil []]) nE (AA.mem ⟨AJ.at D.f1,C,tQ⟩) (Ap.mem ⟨Bc.mono,AU.mono,tQ⟩) |>.less sR sR nE (mR [0,1,2,4])) ?_;rintro⟨i,r,out,txs,ta,tc,oa,oc,e,ea,s⟩ ⟨hi,U,hol,htyb,heB,W,htx,hw,hrs,hfr,hv1,hv2⟩;dsimp only at hi U hol htyb heB W htx hw hrs hfr hv1 hv2 ⊢;refine Aa 6 (λ_=>A6 22 C C (λh1=>?_) (λh1=>?_));refine Aa 6 (λ_=>?_);have hil:i<nds.len:=by have:=dT h1;omega
 obtain⟨op2,ln2,co2,F,nm2,k2,r,rfl⟩:=Nd.cases1 r oM;have hi2:i+(r.len+1)=nds.len:=hi;obtain⟨htx2,hkx2,hrx2⟩:=htx;have hrs2:k2.size+r.size+1≤nds.size:=hrs;have hfr2:s.fresh+200002*((k2.size+r.size+1:Nat):Int)≤200002*nds.size:=hfr;have hv3:((k2.size+r.size+1:Nat):Int)-nds.size-1≤s.vars:=hv1;have hkl:=Nd.len_le k2;have hfr0:=hw.fr;refine H4 0 C ?_;rintro⟨eb,eo,ka,kc⟩ rfl;refine Af 26 [100,0,0,1] (aI oM<|y2<|λb4=>y<|λb5=>y<|λ_=>A6 27 C C (λh2=>?_) (λh2=>?_));refine Af 5 [1] (y<|λ_=>Zu C C (eC uS C C) (λ_ h=>h) (λw f D=>Yg w f D.vl A hA s D.res D.mz hw D.f5 op2 ln2 co2 nm2 F k2 ka kc oM htx2 hkx2 D.f0 oM hv2) (λ_=>Aq.stab) (λ_=>trivial) (λer w2 f2 he hE J=>MN hn C C C C (FC (U.trans (D3 (Vj h2 he)))) hE (J _ fY) (J _ WE) (J _ WK)) ?_);rintro s5 ⟨hda,hw5,hfr5,hvv5,hvw5⟩;dsimp only at hda hw5 hfr5 hvv5 hvw5 ⊢;exact Aa 11 (aI ⟨oM,oM⟩<|λ_=>C0 ((i+1,r,out,txs,ta,tc,oa,oc,e,ea,s5)) (show r.len<r.len+1 from Nat.lt_succ_self _) ⟨show i+1+r.len=_ by omega,U.trans (VH (YW h2 hda)),show out.length≤i+1 by omega,htyb,heB,W.2,hrx2,hw5,show r.size≤_ by omega,show s5.fresh+200002*(r.size:Int)≤_ by omega,show (r.size:Int)-nds.size-1≤s5.vars by omega,show s5.vars≤0 by omega⟩ lE (λw f D=>⟨_,D.less (sD (sD (sK (sK (sK sZ))))) sR nE (mR [1,3,4,5])⟩));refine Aa 7 (λ_=>A6 32 C C (λh3=>?_) (λh3=>?_));refine Aa 2 (λ_=>?_);have hwk:k2.wfm 2:=by rcases W.1 with L|⟨L,h8⟩|⟨L,h8⟩ <;> first|exact h8|(exfalso;have:=beq_iff_eq.1 h3;omega)
 obtain⟨op3,ln3,co3,tx3,nm3,k3,r3,G⟩:=C5 hwk dC;have hwk2:r3.wfm 3:=by have L:=hwk;rw[G] at L;exact L
 obtain⟨op4,ln4,co4,tx4,nm4,k4,r4,rfl⟩:=C5 hwk2 dC;rw[XZ] at hwk2;have hks2:(Nd.cons op4 ln4 co4 tx4 nm4 k4 r4).size=k4.size+r4.size+1:=rfl;have hkl3:(Nd.cons op4 ln4 co4 tx4 nm4 k4 r4).len=r4.len+1:=rfl;have hkx3:tx3.length≤100000∧k3.txb:=by have L:=hkx2;rw[G] at L;exact⟨L.1,L.2.1⟩
 have hks:k2.size=k3.size+(Nd.cons op4 ln4 co4 tx4 nm4 k4 r4).size+1:=by rw[G];rfl
 have hkl2:k2.len=(Nd.cons op4 ln4 co4 tx4 nm4 k4 r4).len+1:=by rw[G];rfl
 refine dB 0 C G<|H4 0 C ?_;rintro⟨eb3,eo3,ka3,kc3⟩ rfl;refine H4 1 C ?_;rintro⟨eb4,eo4,ka4,kc4⟩ h44;obtain⟨rfl,rfl⟩:eb3=eb4∧eo3=eo4:=by cases h44;exact⟨C,C⟩
 refine YZ [2,3,4] (λw=>AE w A.cb [pB A.sb,.map (some A.km),.map (some A.dm),.map (some A.rm),iV s.vars] 131∧BM Ck w A.rm (s.roots.map λk=>(k,.bool true))) (λw f h _=>⟨h.blk,h.roots⟩) [0,1,2,3,4] Aj (rd [0,1,2,3,4,5,6,7,8,9] (.br 10 .fin .fin)) C kR kR kR C Ex<|AN 3 (λ_=>CP C C C (λw hK=>Ai C fE hK.2.2.1 C)<|Bh 2 [1] (y<|λ_=>CP C C C (λw hK=>Pc (K:=Ck) (a:=F) C C QI Fp jS hK.2.2.2 hw.dr (SI s.roots))<|Bh 3 [1] (y<|λ_=>Ah C<|Zu (α:=Unit) (val:=λ_=>.tuple #[]) (q:=λ_=>(!s.roots.contains F)=true) (I':=λ_=>Aq 131 222 A s) (F':=λ_=>[]) (pe:=λer=>(!s.roots.contains F)=false∧er=(ln2,co2,11)) (M:=λ_=>False) (T:=114) C C (eC Ew C C) (λ_ h=>h.elim) (λw f D=>(Cd w f D.vl (!s.roots.contains F) ln2 co2).mono (λ_ _ ⟨x,f2,h1,h2,h3,h4⟩=>⟨x,f2,h1,h2,h3.mono (λ_ h=>h.elim),(D.call0 h3).res,h4⟩) λ_ _ h=>h) (λ_=>Aq.stab) (λ_=>trivial) (λer w2 f2 he hE J=>MN hn C C C C (FC (U.trans (D3 (by obtain⟨L,rfl⟩:=he;rw[G];exact Vh h3 (Eh L))))) hE (J _ fY) (J _ WE) (J _ WK)) ?_)));rintro⟨⟩ hnd;replace hnd:s.roots.contains F=false:=Ee hnd;refine Aa 1 (λ_=>AS [0,1,2,3,4] (λw f h _=>⟨h.blk,h.roots⟩) C (λ_ h=>h)<|Bp<|Aa 2 (λ_=>YZ [2,3,4] (λw=>AE w A.cb [pB A.sb,.map (some A.km),.map (some A.dm),.map (some A.rm),iV s.vars] 131) (λw f h _=>h.blk) [0,1,2,3,4] Aj (rd [0,1,2,3,4,5] (.br 6 .fin .fin)) C kR kR kR C Ex<|AN 3 (λ_=>CP C C C (λw hK=>Ai C fE hK.2.2 C)<|Bh 2 [1] (y<|λ_=>Ah C<|cRoot (a:=F) hA hw C C C C QI Fp hnd ?_))));have hwr:=hw.addRoot hnd;refine Aa 1 (λ_=>AS [0,1,2,3,4] (λw f h _=>h.blk) C (λ_ h=>h)<|Bp<|Af 8 [1,101,0] (y<|aI oM<|y2<|λ_=>Zu (α:=T1×oA×Nat) (val:=λx=>tV x.1 x.2.1 x.2.2) (q:=λx=>CR s.datas [] op3 ln3 co3 tx3 k3=.ok x.1∧x.1.bnd) (I':=λ_=>Aq 131 222 A ({s with roots:=F::s.roots}:CS)) (F':=λx=>[λw f=>Ae w f x.1.kids x.2.1 x.2.2]) (pe:=λer=>CR s.datas [] op3 ln3 co3 tx3 k3=.error er) (M:=λ_=>False) (T:=114) C C (eC NN C C) (λ_ h=>h.elim) (λw f D=>(KX (k3.size+1) w f D.vl A ({s with roots:=F::s.roots}:CS) D.res hwr D.f10 op3 ln3 co3 nm3 tx3 k3 ka3 kc3 (.map none) [] (Nat.lt_succ_self _) oM hkx3.1 hkx3.2 (.inl ⟨C,C⟩) D.f2).mono (λ_ _ ⟨x,f2,h1,h2,h3,h4⟩=>⟨x,f2,h1,h2,h3.mono (λ_ h=>h.elim),(D.call0 h3).res,h4⟩) λ_ _ h=>h) (λ_=>Aq.stab) (λ_=>⟨Ae.mono,tQ⟩) (λer w2 f2 he hE J=>MN hn C C C C (FC (U.trans (D3 (by rw[G];exact U8 h3 hnd he)))) hE (J _ fY) (J _ WE) (J _ WK)) ?_));rintro⟨q5,qa,qc⟩ ⟨hp5,hqb⟩;dsimp only at hp5 hqb ⊢
 refine Af 5 [0] (λb6=>y<|λ_=>YZ [2,3,4] (λ_=>True) DG [0,1,2,3,4,5] Aj (rd [0,1,2,3,4,5,6,7,9,10] (.br 8 (.br 11 .fin .fin) .fin)) C kR kR kR C Ex<|Bh 10 [0,2,100,0,2] (y<|y<|aI oM<|y2<|y<|λ_=>Ah C<|Zu C C (eC CB C C) (λ_ h=>h) (λw f D=>Jc (k4.size+1) w f D.vl A hA ({s with roots:=F::s.roots}:CS) D.res D.mz hwr op4 ln4 co4 nm4 tx4 k4 ka4 kc4 e ea (Nat.lt_succ_self _) oM hwk2 D.f1 heB D.f10 (by first|omega|(dsimp only;omega))) (λ_=>Aq.stab) (λ_=>⟨Ae.mono,tQ⟩) (λer w2 f2 he hE J=>MN hn C C C C (FC (U.trans (D3 (by rw[G];exact Vx h3 hnd hp5 he)))) hE (J _ om5) (J _ fY) (J _ WE)) ?_));rintro⟨⟨t6,Y,Z⟩,s6⟩ ⟨Q,O,hw6,hf6⟩;dsimp only at Q O hw6 hf6 ⊢;have hfm6:=L0 JM _ Q;have hvv6:s6.vars=s.vars:=hfm6.2.2.2;refine Aa 1 (λ_=>Am [0,1,2,3,4,5] C<|Ah C<|Zu C C (eC H2 C C) (λ_ h=>h) (λw f D=>D0 w f D.vl A hA s6 D.res D.mz hw6 q5 t6 qa qc Y Z hqb O D.f1 D.f0 ln2 co2) (λ_=>Aq.stab) (λ_=>trivial) (λer w2 f2 he hE J=>MN hn C C C C (FC (U.trans (D3 (by rw[G];exact US h3 hnd hp5 Q he)))) hE (J _ om5) (J _ fY) (J _ WE)) ?_);rintro s7 ⟨hh7,hw7,hf7⟩;have hvv7:s7.vars=s.vars:=(JM.has hh7).2.2.2.trans hvv6;refine Aa 1 (λ_=>Am [0,1,2,3,4,5] C<|Bp<|Af 5 [0] (y<|λb7=>λ_=>CJ 0 C C<|BV (α:=oA×Nat) C C (eC Bz C C) (λw f D=>XG w f D.vl Cl q5 b7 (BD (l:=[(q5,qa,qc)]) ⟨D.f1,tQ⟩ D.b0)) (λ_=>⟨Ae.mono,tQ⟩) ?_));rintro⟨ua,uc⟩ -;refine Af 11 [1,2,1,2] (y<|y<|y<|y<|λ_=>?_);have hub:(T1.con Cl q5.one).bnd:=BS dC (by rw[T1.one,T1.len_cons];simp only[Ty.len];omega) (F7 hqb);refine Zu C C (eC Ia C C) (λ_ h=>h) (λw f D=>DH w f D.vl A hA s7 D.res D.mz hw7 e ea heB D.f12 F (T1.con Cl q5.one) ua uc hub D.f0 false ln2 co2) (λ_=>Aq.stab) (λ_=>⟨AV.mono,tQ⟩) (λer w2 f2 he hE J=>MN hn C C C C (by cases he) hE (J _ om5) (J _ fY) (J _ WE)) ?_;rintro⟨e7,ea7⟩ ⟨he7,heB7⟩;dsimp only at he7 heB7 ⊢;have hee:e7=⟨F,.con Cl q5.one,[]⟩::e:=by cases he7;rfl
 subst hee;refine Af 11 [5,2] (y<|y<|λb8=>λ_=>BW 1 0 C C X4 C C C C C C C C (λ_ _=>C) oM oM λoa2 oc2=>Af 7 [6,2] (y<|y<|λb9=>λ_=>BW 0 0 C C Cu C C C C C C C C (λ_ _=>C) oM oM λta2 tc2=>Aa 8 (aI ⟨oM,oM⟩<|λ_=>?_)));exact C0 ((i+1,r,(out++[(F,(T1.con Cl q5.one))]),txs++tC (T1.con Cl q5.one) ua uc,ta2,tc2,oa2,oc2,(⟨F,.con Cl q5.one,[]⟩::e),ea7,s7)) (show r.len<r.len+1 from Nat.lt_succ_self _) ⟨show i+1+r.len=_ by omega,U.trans (I4 (by rw[G];exact Ze h3 hnd hp5 Q hh7)),show (out++[(F,(T1.con Cl q5.one))]).length≤i+1 by rw[List.length_append];simp;omega,show (F3 (out++[(F,(T1.con Cl q5.one))])).bnd by rw[DN];exact Ty.bnd_snoc htyb hub,heB7,W.2,hrx2,hw7,show r.size≤_ by omega,show s7.fresh+200002*(r.size:Int)≤_ by omega,show (r.size:Int)-nds.size-1≤s7.vars by omega,show s7.vars≤0 by omega⟩ (pQ C C C C C (Eq.trans (b:=some (Value.slice ta2 (out.length+1) tc2)) C (by dsimp only;rw[List.length_append];rfl)) C C C) (λw f D=>⟨_,by have hM9:=(D.more (B':=[]) (F':=[λw f=>AU w f (F3 (out++[(F,(T1.con Cl q5.one))])) (txs++tC (T1.con Cl q5.one) ua uc)]) nE (AA.mem ⟨by rw[DN];exact AU.snoc D.f1 D.f12,tQ⟩) (Ap.mem ⟨AU.mono,tQ⟩)).less (sD (sD (sD (sD (sD (sK (sK (sK sZ)))))))) sR (B':=[]) nE (F':=[λw f=>Bc w f (some ⟨eb,eo,none⟩) (i+1) r,λw f=>AU w f (F3 (out++[(F,(T1.con Cl q5.one))])) (txs++tC (T1.con Cl q5.one) ua uc),λw f=>AV w f (⟨F,.con Cl q5.one,[]⟩::e) ea7,λw f=>EY w f]) (mR [11,0,1,15]);dsimp only;rw[show (out++[(F,(T1.con Cl q5.one))]).length=out.length+1 by rw[List.length_append];rfl,show bC (Wo (out++[(F,(T1.con Cl q5.one))]))=bC (Wo out)++[S F,S []] by rw[Wo,List.map_append,SP.bC_app];rfl];exact hM9⟩);refine Aa 7 (λ_=>A6 80 C C (λh4=>?_) (λh4=>?_));refine Aa 2 (λ_=>?_);have hwk:k2.wfm 3:=by rcases W.1 with L|⟨L,h8⟩|⟨L,h8⟩ <;> first|exact h8|(exfalso;have:=beq_iff_eq.1 h4;omega)
 obtain⟨op3,ln3,co3,tx3,nm3,k3,r3,G⟩:=C5 hwk dC;have hwk1:G7 op3 k3:=by have L:=hwk;rw[G] at L;exact L
 have hks:k2.size=k3.size+r3.size+1:=by rw[G];rfl
 have hkl2:k2.len=r3.len+1:=by rw[G];rfl
 refine dB 0 C G<|H4 0 C ?_;rintro⟨eb3,eo3,ka3,kc3⟩ rfl;refine Af 7 [1,100,0] (y<|aI oM<|y2<|λ_=>Zu C C (eC CB C C) (λ_ h=>h) (λw f D=>Jc (k3.size+1) w f D.vl A hA s D.res D.mz hw op3 ln3 co3 nm3 tx3 k3 ka3 kc3 e ea (Nat.lt_succ_self _) oM hwk1 D.f0 heB D.f7 (by first|omega|(dsimp only;omega))) (λ_=>Aq.stab) (λ_=>⟨Ae.mono,tQ⟩) (λer w2 f2 he hE J=>MN hn C C C C (FC (U.trans (D3 (by rw[G];exact YR h4 he)))) hE (J _ fY) (J _ WE) (J _ WK)) ?_);rintro⟨⟨t6,Y,Z⟩,s6⟩ ⟨Q,O,hw6,hf6⟩;dsimp only at Q O hw6 hf6 ⊢;have hfm6:=L0 JM _ Q;have hvv6:s6.vars=s.vars:=hfm6.2.2.2;refine Af 3 [0] (y<|λ_=>YZ [2,3,4] (λ_=>True) DG [0,1,2,3,4] Aj (rd [0,1,2,3,4,5,6,7,8,10,11] (.br 9 (.br 12 (.rd 13 .fin) .fin) .fin)) C kR kR kR C Ex<|Bh 11 [1,0,1,100,0,1] (y<|y<|y<|aI oM<|y2<|y<|λ_=>Ah C<|B3 C C (eC Wr C C) (λw f D=>Ky (k3.size+1) w f D.vl op3 ln3 co3 nm3 tx3 k3 ka3 kc3 (Nat.lt_succ_self _) oM D.f1)<|Aa 1 (λ_=>Am [0,1,2,3,4] C<|Ah C<|Zu C C (eC Ia C C) (λ_ h=>h) (λw f D=>DH w f D.vl A hA s6 D.res D.mz hw6 e ea heB D.f8 F t6 Y Z O D.f0 (Ct (k3.size+1) op3 k3) ln2 co2) (λ_=>Aq.stab) (λ_=>⟨AV.mono,tQ⟩) (λer w2 f2 he hE J=>MN hn C C C C (FC (U.trans (D3 (by rw[G];exact YJ h4 Q he)))) hE (J _ fY) (J _ WE) (J _ WK)) ?_)));rintro⟨e7,ea7⟩ ⟨he7,heB7⟩;dsimp only at he7 heB7 ⊢;refine Aa 1 (λ_=>Am [0,1,2,3,4] C<|AN 1 (λ_=>Bp<|Af 9 [4,1] (y<|y<|λb6=>λ_=>BW 1 0 C C X4 C C C C C C C C (λ_ _=>C) oM oM λoa2 oc2=>Af 7 [5,1] (y<|y<|λb7=>λ_=>BW 0 0 C C Cu C C C C C C C C (λ_ _=>C) oM oM λta2 tc2=>Aa 8 (aI ⟨oM,oM⟩<|λ_=>?_)))))
 exact C0 ((i+1,r,(out++[(F,t6)]),txs++tC t6 Y Z,ta2,tc2,oa2,oc2,e7,ea7,s6)) (show r.len<r.len+1 from Nat.lt_succ_self _) ⟨show i+1+r.len=_ by omega,U.trans (I4 (by rw[G];exact eI h4 Q he7)),show (out++[(F,t6)]).length≤i+1 by rw[List.length_append];simp;omega,show (F3 (out++[(F,t6)])).bnd by rw[DN];exact Ty.bnd_snoc htyb O,heB7,W.2,hrx2,hw6,show r.size≤_ by omega,show s6.fresh+200002*(r.size:Int)≤_ by omega,show (r.size:Int)-nds.size-1≤s6.vars by omega,show s6.vars≤0 by omega⟩ (pQ C C C C C (Eq.trans (b:=some (Value.slice ta2 (out.length+1) tc2)) C (by dsimp only;rw[List.length_append];rfl)) C C C) (λw f D=>⟨_,by have hM9:=(D.more (B':=[]) (F':=[λw f=>AU w f (F3 (out++[(F,t6)])) (txs++tC t6 Y Z)]) nE (AA.mem ⟨by rw[DN];exact AU.snoc D.f1 D.f8,tQ⟩) (Ap.mem ⟨AU.mono,tQ⟩)).less (sD (sD (sD (sD (sK (sK (sK sZ))))))) sR (B':=[]) nE (F':=[λw f=>Bc w f (some ⟨eb,eo,none⟩) (i+1) r,λw f=>AU w f (F3 (out++[(F,t6)])) (txs++tC t6 Y Z),λw f=>AV w f e7 ea7,λw f=>EY w f]) (mR [7,0,1,11]);dsimp only;rw[show (out++[(F,t6)]).length=out.length+1 by rw[List.length_append];rfl,show bC (Wo (out++[(F,t6)]))=bC (Wo out)++[S F,S []] by rw[Wo,List.map_append,SP.bC_app];rfl];exact hM9⟩);refine Aa 7 (λ_=>A6 102 C C (λh5=>?_) (λh5=>?_));refine Aa 2 (λ_=>?_);have hwk:k2.wfm 3:=by rcases W.1 with L|⟨L,h8⟩|⟨L,h8⟩ <;> first|exact h8|(exfalso;have:=beq_iff_eq.1 h5;omega)
 obtain⟨op3,ln3,co3,tx3,nm3,k3,r3,rfl⟩:=C5 hwk dC;rw[XZ] at hwk;have hks:(Nd.cons op3 ln3 co3 tx3 nm3 k3 r3).size=k3.size+r3.size+1:=rfl;refine Af 4 [1] (y<|λ_=>Zu C C (eC ZU C C) (λ_ h=>h) (λw f D=>Th (k3.size+1) (Jc (k3.size+1)) w f D.vl A hA s D.res D.mz hw op2 ln2 co2 nm2 F op3 ln3 co3 nm3 tx3 k3 r3 ka kc e ea (Nat.lt_succ_self _) oM hwk D.f0 heB D.f4 oM) (λ_=>Aq.stab) (λ_=>⟨Ae.mono,tQ⟩) (λer w2 f2 he hE J=>MN hn C C C C (FC (U.trans (D3 (XO h5 he)))) hE (J _ fY) (J _ WE) (J _ WK)) ?_);rintro⟨⟨t6,Y,Z⟩,s6⟩ ⟨Q,O,hw6,hf6⟩;dsimp only at Q O hw6 hf6 ⊢;have hfm6:=W5 JM (L0 JM _) Q;have hvv6:s6.vars=s.vars:=hfm6.2.2.2;refine Af 11 [0,1,0,1] (y<|y<|y<|y<|λ_=>Zu C C (eC Ia C C) (λ_ h=>h) (λw f D=>DH w f D.vl A hA s6 D.res D.mz hw6 e ea heB D.f5 F t6 Y Z O D.f0 true ln2 co2) (λ_=>Aq.stab) (λ_=>⟨AV.mono,tQ⟩) (λer w2 f2 he hE J=>MN hn C C C C (FC (U.trans (D3 (YP h5 Q he)))) hE (J _ fY) (J _ WE) (J _ WK)) ?_);rintro⟨e7,ea7⟩ ⟨he7,heB7⟩;dsimp only at he7 heB7 ⊢;exact Af 11 [4,1] (y<|y<|λb6=>λ_=>BW 1 0 C C X4 C C C C C C C C (λ_ _=>C) oM oM λoa2 oc2=>Af 7 [5,1] (y<|y<|λb7=>λ_=>BW 0 0 C C Cu C C C C C C C C (λ_ _=>C) oM oM λta2 tc2=>Aa 8 (aI ⟨oM,oM⟩<|λ_=>C0 ((i+1,r,(out++[(F,t6)]),txs++tC t6 Y Z,ta2,tc2,oa2,oc2,e7,ea7,s6)) (show r.len<r.len+1 from Nat.lt_succ_self _) ⟨show i+1+r.len=_ by omega,U.trans (I4 (Z3 h5 Q he7)),show (out++[(F,t6)]).length≤i+1 by rw[List.length_append];simp;omega,show (F3 (out++[(F,t6)])).bnd by rw[DN];exact Ty.bnd_snoc htyb O,heB7,W.2,hrx2,hw6,show r.size≤_ by omega,show s6.fresh+200002*(r.size:Int)≤_ by omega,show (r.size:Int)-nds.size-1≤s6.vars by omega,show s6.vars≤0 by omega⟩ (pQ C C C C C (Eq.trans (b:=some (Value.slice ta2 (out.length+1) tc2)) C (by dsimp only;rw[List.length_append];rfl)) C C C) (λw f D=>⟨_,by have hM9:=(D.more (B':=[]) (F':=[λw f=>AU w f (F3 (out++[(F,t6)])) (txs++tC t6 Y Z)]) nE (AA.mem ⟨by rw[DN];exact AU.snoc D.f1 D.f5,tQ⟩) (Ap.mem ⟨AU.mono,tQ⟩)).less (sD (sD (sD (sD (sK (sK (sK sZ))))))) sR (B':=[]) nE (F':=[λw f=>Bc w f (some ⟨eb,eo,none⟩) (i+1) r,λw f=>AU w f (F3 (out++[(F,t6)])) (txs++tC t6 Y Z),λw f=>AV w f e7 ea7,λw f=>EY w f]) (mR [4,0,1,8]);dsimp only;rw[show (out++[(F,t6)]).length=out.length+1 by rw[List.length_append];rfl,show bC (Wo (out++[(F,t6)]))=bC (Wo out)++[S F,S []] by rw[Wo,List.map_append,SP.bC_app];rfl];exact hM9⟩))));refine Aa 7 (λ_=>A6 116 C C (λh6=>?_) (λh6=>?_));refine Aa 2 (λ_=>?_);have hwk:k2.wfm 3:=by rcases W.1 with L|⟨L,h8⟩|⟨L,h8⟩ <;> first|exact h8|(exfalso;have:=beq_iff_eq.1 h6;omega)
 obtain⟨op3,ln3,co3,tx3,nm3,k3,r3,G⟩:=C5 hwk dC;have hwk1:G7 op3 k3:=by have L:=hwk;rw[G] at L;exact L
 have hks:k2.size=k3.size+r3.size+1:=by rw[G];rfl
 have hkl2:k2.len=r3.len+1:=by rw[G];rfl
 refine dB 0 C G<|H4 0 C ?_;rintro⟨eb3,eo3,ka3,kc3⟩ rfl;refine Af 7 [1,100,0] (y<|aI oM<|y2<|λ_=>Zu C C (eC CB C C) (λ_ h=>h) (λw f D=>Jc (k3.size+1) w f D.vl A hA s D.res D.mz hw op3 ln3 co3 nm3 tx3 k3 ka3 kc3 e ea (Nat.lt_succ_self _) oM hwk1 D.f0 heB D.f7 (by first|omega|(dsimp only;omega))) (λ_=>Aq.stab) (λ_=>⟨Ae.mono,tQ⟩) (λer w2 f2 he hE J=>MN hn C C C C (FC (U.trans (D3 (by rw[G];exact gD h6 he)))) hE (J _ fY) (J _ WE) (J _ WK)) ?_);rintro⟨⟨t6,Y,Z⟩,s6⟩ ⟨Q,O,hw6,hf6⟩;dsimp only at Q O hw6 hf6 ⊢;have hfm6:=L0 JM _ Q;have hvv6:s6.vars=s.vars:=hfm6.2.2.2;refine Af 16 [0,1,4,1] (y<|y<|y<|y<|λb6=>λ_=>BW 1 0 C C X4 C C C C C C C C (λ_ _=>C) oM oM λoa2 oc2=>Af 7 [5,1] (y<|y<|λb7=>λ_=>BW 0 0 C C Cu C C C C C C C C (λ_ _=>C) oM oM λta2 tc2=>Aa 8 (aI ⟨oM,oM⟩<|λ_=>?_)));exact C0 ((i+1,r,(out++[(([]:lU),t6)]),txs++tC t6 Y Z,ta2,tc2,oa2,oc2,e,ea,s6)) (show r.len<r.len+1 from Nat.lt_succ_self _) ⟨show i+1+r.len=_ by omega,U.trans (I4 (by rw[G];exact lL h6 Q)),show (out++[(([]:lU),t6)]).length≤i+1 by rw[List.length_append];simp;omega,show (F3 (out++[(([]:lU),t6)])).bnd by rw[DN];exact Ty.bnd_snoc htyb O,heB,W.2,hrx2,hw6,show r.size≤_ by omega,show s6.fresh+200002*(r.size:Int)≤_ by omega,show (r.size:Int)-nds.size-1≤s6.vars by omega,show s6.vars≤0 by omega⟩ (pQ C C C C C (Eq.trans (b:=some (Value.slice ta2 (out.length+1) tc2)) C (by dsimp only;rw[List.length_append];rfl)) C C C) (λw f D=>⟨_,by have hM9:=(D.more (B':=[]) (F':=[λw f=>AU w f (F3 (out++[(([]:lU),t6)])) (txs++tC t6 Y Z)]) nE (AA.mem ⟨by rw[DN];exact AU.snoc D.f0 D.f7,tQ⟩) (Ap.mem ⟨AU.mono,tQ⟩)).less (sD (sD (sD (sD (sK (sK (sK sZ))))))) sR (B':=[]) nE (F':=[λw f=>Bc w f (some ⟨eb,eo,none⟩) (i+1) r,λw f=>AU w f (F3 (out++[(([]:lU),t6)])) (txs++tC t6 Y Z),λw f=>AV w f e ea,λw f=>EY w f]) (mR [6,0,9,10]);dsimp only;rw[show (out++[(([]:lU),t6)]).length=out.length+1 by rw[List.length_append];rfl,show bC (Wo (out++[(([]:lU),t6)]))=bC (Wo out)++[S ([]:lU),S []] by rw[Wo,List.map_append,SP.bC_app];rfl];exact hM9⟩);exfalso;have gh2:=beq_eq_false_iff_ne.1 h2;have gh3:=beq_eq_false_iff_ne.1 h3;have gh4:=beq_eq_false_iff_ne.1 h4;have gh5:=beq_eq_false_iff_ne.1 h5;have gh6:=beq_eq_false_iff_ne.1 h6;rcases W.1 with L|⟨L,h8⟩|⟨L,h8⟩ <;> omega
 refine Aa 3 (λ_=>Dl<|Aa 4 (λ_=>?_));obtain rfl:r=.nil:=Nd.len0 (by have:=dF h1;omega);have hti2:Gi jA Rx nds []=.ok (out,s):=U;have hol2:out.length≤200000:=oM;refine Ud (λw f=>Ae w f (F3 out) ta tc) Ae.mono (λw f D=>El D D.f1)<|Aa 7 (λ_=>?_);refine D6 (α:=List (lU×lU)×List (lU×T1)) (λx=>x.2.length) (λx=>x.1.length+x.2.length=out.length∧(ER nds=match Mc s x.2 with|.error e=>.error e|.ok l=>.ok (x.1++l))∧(F3 x.2).bnd) (λx=>(E7 2 (pB b1) 3 (pB b2) 4 (pB b3) 5 (pB A.cb) 137 (.slice ta out.length tc) 138 (iV (out.length:Int)) 139 (iV (x.1.length:Int)))) (λx=>⟨λ_=>False,B2 A,Aq 131 222 A s,w,f⟩) (λx=>[⟨b3,[iV 0],28,true⟩,⟨b2,[iV 0,iV 0],27,true⟩,⟨b1,[.slice oa out.length oc],25,true⟩]) (λx=>[⟨103,2,oa,oc,out.length,bC (R3 x.1 x.2)⟩]) (λx=>[]) (λx=>[λw f=>Bn w f ta x.1.length (F3 x.2)]) ([],out) ⟨by simp,(uZ hti2).trans VM,htyb⟩ lE (λw f D=>D.more (B':=[]) (F':=[λw f=>Bn w f ta 0 (F3 out)]) nE (AA.mem ⟨Ae.at D.f0,tQ⟩) (Ap.mem ⟨Bn.mono,tQ⟩) |>.less (sK (sK (sK sZ))) sR nE (mR [0])) ?_;rintro⟨d,r⟩ ⟨hdl,hfi,htyr⟩;dsimp only at hdl hfi htyr ⊢;refine Aa 6 (λ_=>A6 140 C C (λh2=>?_) (λh2=>?_));refine Aa 6 (λ_=>?_);have hjl:d.length<out.length:=by have:=dT h2;omega
 obtain⟨⟨nm2,t2⟩,r2,rfl⟩:∃p q,r=p::q:=by cases r with|nil=>simp only[List.length_nil] at hdl;omega|cons p q=>exact⟨p,q,C⟩
 have htb2:t2.bnd∧(F3 r2).bnd:=T1.bnd_cons.1 htyr;refine IF (p:=∃ob,oa=some ⟨ob,0,none⟩) (λw f D=>by rcases (D.row _ (.head _)).2 with ⟨_,_,L⟩|⟨ob,_,L,_⟩;(dsimp only at L;omega);exact⟨ob,L⟩) λhob=>?_;obtain⟨ob,rfl⟩:=hob;refine Ja (α:=Nat×Nat×oA×Nat) (λx=>ta=some ⟨x.1,x.2.1,none⟩) (λx=>[⟨x.1,x.2.1+d.length*4,tC t2 x.2.2.1 x.2.2.2⟩]) (λx=>[λw f=>Ae w f t2.kids x.2.2.1 x.2.2.2,λw f=>Bn w f ta (d.length+1) (F3 r2)]) (λw f D=>let ⟨b,off,ka,kc,h1,h2,h3,h4⟩:=Bn.head (show Bn w f ta d.length (t2.cons (F3 r2)) from D.f0);⟨(b,off,ka,kc),h1,(oE h2),AA.mem ⟨h3,h4,tQ⟩⟩) (λx=>Ap.mem ⟨Ae.mono,Bn.mono,tQ⟩) ?_;rintro⟨ab2,ao2,ka2,kc2⟩ rfl;refine Af 9 [100,0,0] (aI oM<|y2<|λb4=>y<|λ_=>YZ [2,3,4] (λ_=>True) DG [0,1,2,3] Aj (rd [0,1,2,3,4] (.br 5 (.br 6 (.rd 7 (.rd 8 (.br 9 .fin .fin))) .fin) .fin)) C kR kR kR C Ex<|Bh 5 [3,0] (y<|y<|λ_=>Ah C<|Zu C C (eC Fx C C) (λ_ h=>h) (λw f D=>Cf w f D.vl A hA s D.res D.mz hw t2 ka2 kc2 htb2.1 D.f0 0 0) (λ_=>Aq.stab) (λ_=>⟨Ae.mono,tQ⟩) (λer w2 f2 he hE J=>MN hn C C C C (by rw[hfi,ZF he]) hE (J _ WE) (J _ WK) (J _ qC)) ?_));rintro⟨u2,ua2,uc2⟩ ⟨hfu,hub2,hus2⟩;dsimp only at hfu hub2 hus2 ⊢;refine Aa 1 (λ_=>Am [0,1,2,3] C<|Ah C<|B3 C C (eC uY C C) (λw f D=>XL w f D.vl u2 ua2 uc2 hus2 hub2 D.f0)<|Aa 1 (λ_=>Am [0,1,2,3] C<|AN 2 (aI oM<|λ_=>Ah C<|mrs 0 (bC (R3 (d++[(nm2,P6 u2)]) r2)) C C C C qti9 C C C (by simp only[Nat.zero_add,List.length_cons,List.length_nil,Int.toNat_natCast];omega) (by rw[Nat.zero_add,Int.toNat_natCast];exact YN) C<|Aa 1 (λ_=>?_))));exact Am [0,1,2,3] C<|Bp<|Aa 6 (aI ⟨oM,oM⟩<|λ_=>C0 ((d++[(nm2,P6 u2)],r2)) (show r2.length<((nm2,t2)::r2).length from Nat.lt_succ_self _) ⟨show (d++[(nm2,P6 u2)]).length+r2.length=_ by simp only[List.length_append,List.length_cons,List.length_nil] at hdl ⊢;omega,hfi.trans (XU hfu),htb2.2⟩ (lu7 C C C C C C (Eq.trans (b:=some (Value.int .i64 ((d.length:Int)+1))) C (by dsimp only;simp))) (λw f D=>⟨_,by have hM9:=D.less (sD (sK (sK (sK sZ)))) sR (B':=[]) nE (F':=[λw f=>Bn w f (some ⟨ab2,ao2,none⟩) (d.length+1) (F3 r2)]) (mR [2]);dsimp only;rw[List.length_append];exact hM9⟩));refine Aa 3 (λ_=>Dl<|Aa 3 (λ_=>?_));obtain rfl:r=[]:=by have L:=dF h2;cases r with|nil=>rfl|cons p q=>simp only[List.length_cons] at hdl;omega
 refine Af 9 [2,2,1,0] (y<|y<|y<|y<|λ_=>λw9 f9 D=>?_);obtain⟨f8,hM8,hB8⟩:=wN (l:=R3 d []) (by have hM9:=D;rw[show out.length=(R3 d []).length by rw[R3,List.length_append];simp only[List.map_nil,List.length_nil];exact hdl.symm] at hM9;exact hM9);have hinf:ER nds=.ok d:=by rw[hfi];show (Except.ok (d++[]):RI _)=_;rw[List.append_nil]
 have hdd:R3 d []=d:=List.append_nil d;rw[hdd] at hB8;exact λtmps ht=>idone C C C C hinf hM8.exm hB8 (by have L:=hM8.blk _ WK;rw[hdd] at L;exact L) (hM8.blk _ qC) (hM8.blk _ om0) tmps ht
end Go.Proofs.YtplnpgpagkpnmaaGreatDoor
namespace Go.SP
open Go.SW Go.RowKit
def Fo.sz:Fo→Nat
 |.nil=>0
 |.cons _ k r=>k.sz+r.sz+1
structure NW(k:Fo)(a:N):Prop where
 tx:a.tx.length≤100000
 kt:a.kids.txb
 sz:a.kids.size+2≤2*(k.sz+1)
def EW(f:AB→Fo→R N):Prop:=∀t k a,t.ok→k.ok→f t k=.ok a→NW k a
theorem Jg{f:AB→Fo→R N}(F:EW f):∀(d:Fo)(x:Nd),d.ok→Bi f d=.ok x→x.txb∧x.size+x.len≤2*d.sz∧x.len=d.len
 |.nil,x,_,h=>by cases h;exact⟨tQ,Nat.le_refl _,C⟩
 |.cons t k r,x,hk,h=>by
   unfold Bi at h
   split at h
   · cases h
   rename_i a G
   split at h
   · cases h
   rename_i b J
   cases h
   have D:=F t k a hk.1 hk.2.1 G;obtain⟨K,O,L⟩:=Jg F r b hk.2.2.2 J;refine⟨⟨D.tx,D.kt,K⟩,?_,by simp only[N.cons,Nd.len,Fo.len,L]⟩;have:=D.sz;simp only[N.cons,Nd.size,Nd.len,Fo.sz];omega
variable {h:AB}{hk:Fo}{co ln nm:Int}{n:Nat}{ks:Nd}
theorem rE{t:AB}{k:Fo}{op:Int}{tx:lU}(h:tx.length≤100000):NW k ⟨op,ln,co,tx,nm,.nil⟩:=⟨h,tQ,by simp only[Nd.size];omega⟩
theorem nwE{f:AB→Fo→R N}(d:EW f){l:Fo}(D:(Fo.cons h hk l).ok){op:Int}{tx:lU}(F:tx.length≤100000)(he:Bi f l=.ok ks):NW (.cons h hk l) ⟨op,ln,co,tx,nm,ks⟩:=by
 obtain⟨G,J,_⟩:=Jg d l ks D.2.2.2 he;refine⟨F,G,?_⟩;simp only[Fo.sz];omega
theorem nwA{f:AB→Fo→R N}(d:EW f){l:Fo}(D:l.ok){op:Int}{tx:lU}(F:tx.length≤100000)(he:Bi f l=.ok ks):NW l ⟨op,ln,co,tx,nm,ks⟩:=by
 obtain⟨G,J,_⟩:=Jg d l ks D he;refine⟨F,G,?_⟩;simp only;omega
theorem Xr:EW J3:=λt k a d _ h=>by
 unfold J3 at h
 cases h
 split
 · exact rE (t:=t) (Nat.zero_le _)
 · exact rE (t:=t) d.2
theorem cW:∀n,EW (DZ n)
 |0=>λ_ _ _ _ _ h=>by cases h
 |n+1=>λt k a d hk h=>by
   have D:=cW n;unfold DZ at h;simp only[need] at h
   repeat' (split at h)
   all_goals first
     |(cases h;done)
     |exact Xr t _ a d hk h
     |(cases h;first|exact rE (t:=t) (Nat.zero_le _)|exact rE (t:=t) d.2|exact nwE D hk (Nat.zero_le _) (by assumption)|exact nwE D hk hk.1.2 (by assumption))
theorem SM{t:AB}:∀(x:Nd)(o:N),x.txb→FZ t x=some o→o.tx.length≤100000∧o.kids.txb∧o.kids.size+2≤x.size+x.len
 |.nil,_,_,h=>by cases h
 |.cons op ln co tx nm kids .nil,o,D,h=>by
   unfold FZ at h
   cases h
   exact⟨D.1,D.2.1,by simp only[Nd.size,Nd.len];omega⟩
 |.cons op ln co tx nm kids (.cons a b c d e f r),o,D,h=>by
   unfold FZ at h;simp only at h
   cases F:FZ t (.cons a b c d e f r) with
   |none=>rw[F] at h;cases h
   |some q =>
     rw[F] at h
     cases h
     obtain⟨G,J,K⟩:=SM (.cons a b c d e f r) q D.2.2 F;refine⟨by simp[Av],⟨D.1,D.2.1,G,J,tQ⟩,?_⟩;simp only[Av,N.one,N.cons,Nd.size,Nd.len] at K ⊢;omega
theorem JB{α:Type}{t:AB}{b:Bool}{x:R α}{a:α}(h:need t b x=.ok a):b=true∧x=.ok a:=by
 unfold need at h
 split at h
 · rename_i d;exact⟨d,h⟩
 · cases h
theorem Vb:∀n,EW (Dz n)
 |0=>λ_ _ _ _ _ h=>by cases h
 |n+1=>λt k a D hk h=>by
   have F:=Vb n;unfold Dz at h
   by_cases d:(t.k==0)=true
   · rw[if_pos d] at h
     split at h
     · cases h
     rename_i hd G l;simp only at h
     by_cases hw:hd.isWord [45,62]=true
     · rw[if_pos hw] at h
       obtain⟨_,h⟩:=JB h
       split at h
       · cases h
       rename_i ks he;obtain⟨J,Q,U⟩:=Jg F l ks hk.2.2.2 he
       split at h
       · rename_i o K
         cases h
         obtain⟨L,O,W⟩:=SM ks _ J K;exact⟨L,O,by simp only[Fo.sz];omega⟩
       · cases h
     · rw[if_neg hw] at h
       obtain⟨_,h⟩:=JB h
       split at h
       · cases h
       rename_i ks he
       cases h
       exact nwE F hk hk.1.2 he
   · rw[if_neg d] at h
     split at h
     · cases h;exact rE (t:=t) D.2
     · obtain⟨_,h⟩:=JB h
       cases h;exact rE (t:=t) D.2
theorem uV{ex:AB→Fo→R N}(hex:EW ex):EW (Hj n ex):=λt k a F hk h=>by
 unfold Hj at h
 split at h
 · rename_i p G b bk
   obtain⟨_,h⟩:=JB h
   split at h
   · cases h
   rename_i q d;obtain⟨_,h⟩:=JB h
   split at h
   · cases h
   rename_i x D
   cases h
   have d:=cW n _ _ _ hk.1 hk.2.1 d;have D:=hex _ _ _ hk.2.2.2.1 hk.2.2.2.2.1 D;refine⟨by simp[Av],⟨d.tx,d.kt,D.tx,D.kt,tQ⟩,?_⟩;have:=d.sz;have:=D.sz;simp only[Av,N.one,N.cons,Nd.size,Fo.sz];omega
 · cases h
theorem QJ:∀{x y:Nd},x.txb→y.txb→(x.app y).txb
 |.nil,_,_,h=>h
 |.cons _ _ _ _ _ _ _,_,h,d=>⟨h.1,h.2.1,QJ h.2.2 d⟩
theorem OV:∀(x y:Nd),(x.app y).size=x.size+y.size
 |.nil,_=>by simp[Nd.app,Nd.size]
 |.cons _ _ _ _ _ _ r,y=>by simp only[Nd.app,Nd.size,OV r y];omega
theorem nw2{x y:N}{k1 k2 k:Fo}(d:NW k1 x)(D:NW k2 y)(G:k1.sz+k2.sz+2≤k.sz){op:Int}{tx:lU}(F:tx.length≤100000):NW k ⟨op,ln,co,tx,nm,x.cons y.one⟩:=by
 refine⟨F,⟨d.tx,d.kt,D.tx,D.kt,tQ⟩,?_⟩;have:=d.sz;have:=D.sz;simp only[N.one,N.cons,Nd.size];omega
theorem nw1{x:N}{k1 k:Fo}(d:NW k1 x)(F:k1.sz+1≤k.sz){op:Int}{tx:lU}(D:tx.length≤100000):NW k ⟨op,ln,co,tx,nm,x.one⟩:=by
 refine⟨D,⟨d.tx,d.kt,tQ⟩,?_⟩;have:=d.sz;simp only[N.one,N.cons,Nd.size];omega
theorem oI{ex:AB→Fo→R N}(hex:EW ex){t:AB}{w:lU}{l:Fo}{a:N}(d:l.ok)(h:Bk n ex t w l=.ok a):NW l a:=by
 unfold Bk at h;simp only[need] at h
 split at h
 · split at h
   · split at h
     · split at h
       · cases h
       rename_i O D
       split at h
       · cases h
       rename_i x F
       cases h
       obtain⟨J,K,_⟩:=Jg Xr _ _ d.2.1 D;have G:=hex _ _ _ d.2.2.2.1 d.2.2.2.2.1 F;refine⟨by simp[Av],QJ J ⟨G.tx,G.kt,tQ⟩,?_⟩;have:=G.sz;simp only[Av,OV,N.one,N.cons,Nd.size,Fo.sz];omega
     · cases h
   · cases h
 split at h
 · split at h
   · split at h
     · split at h
       · cases h
       rename_i x D
       split at h
       · cases h
       rename_i y F
       cases h
       exact nw2 (hex _ _ _ d.2.2.2.1 d.2.2.2.2.1 D) (hex _ _ _ d.2.2.2.2.2.2.1 d.2.2.2.2.2.2.2.1 F) (by simp only[Fo.sz];omega) d.1.2
     · cases h
   · cases h
 split at h
 · split at h
   · split at h
     · split at h
       · cases h
       rename_i x D
       split at h
       · cases h
       rename_i y F
       cases h
       exact nw2 (hex _ _ _ d.2.2.2.1 d.2.2.2.2.1 D) (hex _ _ _ d.2.2.2.2.2.2.1 d.2.2.2.2.2.2.2.1 F) (by simp only[Fo.sz];omega) d.1.2
     · cases h
   · cases h
 iterate 3
   split at h
   · split at h
     · split at h
       · cases h
       rename_i ks D
       cases h
       exact nwA hex d (Nat.zero_le _) D
     · cases h
 split at h
 · split at h
   · split at h
     · cases h
     · split at h
       · cases h
       rename_i x D
       split at h
       · cases h
       rename_i L F
       cases h
       have G:=hex _ _ _ d.1 d.2.1 D;obtain⟨J,K,_⟩:=Jg (uV hex) _ _ d.2.2.2 F;refine⟨by simp[Av],⟨G.tx,G.kt,J⟩,?_⟩;have:=G.sz;simp only[Av,N.cons,Nd.size,Fo.sz];omega
   · cases h
 split at h
 · split at h
   · split at h
     · cases h
     rename_i x D
     cases h
     exact nw1 (hex _ _ _ d.1 d.2.1 D) (by simp only[Fo.sz];omega) (Nat.zero_le _)
   · cases h
 · cases h
theorem nw_up{l:Fo}{a:N}(d:NW l a):NW (.cons h hk l) a:=⟨d.tx,d.kt,by have:=d.sz;simp only[Fo.sz];omega⟩
theorem Oy:∀n,EW (BY n)
 |0=>λ_ _ _ _ _ h=>by cases h
 |n+1=>λt k a D hk h=>by
   have d:=Oy n;unfold BY at h;simp only[need] at h
   repeat' (split at h)
   all_goals first
     |(cases h;done)
     |exact nw_up (oI d hk.2.2.2 h)
     |(cases h;first|exact rE (t:=t) (Nat.zero_le _)|exact rE (t:=t) D.2|exact nwE d hk hk.1.2 (by assumption)|exact nwA d hk (Nat.zero_le _) (by assumption))
theorem nL(n:Nat):EW (IE n):=λt k a d hk h=>by
 unfold IE at h;simp only[need] at h
 repeat' (split at h)
 all_goals first
   |(cases h;done)
   |(cases h;exact nwE (Vb n) hk hk.1.2 (by assumption))
theorem TK:∀(k:Fo)(x:Nd),k.ok→BR k=some x→x.txb∧x.size≤k.sz
 |.nil,x,_,h=>by cases h;exact⟨tQ,Nat.le_refl _⟩
 |.cons v _ r,x,hk,h=>by
   unfold BR at h
   split at h
   · cases d:BR r with
     |none=>rw[d] at h;cases h
     |some y =>
       rw[d] at h
       cases h
       have:=TK r y hk.2.2.2 d;exact⟨⟨hk.1.2,tQ,this.1⟩,by simp only[Av,N.cons,Nd.size,Fo.sz];omega⟩
   · cases h
theorem yC(n:Nat):EW (CO n):=λt k a O hk h=>by
 unfold CO at h;simp only[need] at h
 split at h
 · cases h
 rename_i hd F l;have d:=hk.2.2.2
 split at h
 · split at h
   · split at h
     · split at h
       · split at h
         · cases h
         rename_i vs G
         split at h
         · cases h
         rename_i cs D
         cases h
         obtain⟨J,Q⟩:=TK _ _ d.2.2.2.2.1 G;obtain⟨K,e4,_⟩:=Jg (nL n) _ _ d.2.2.2.2.2.2 D;refine⟨d.1.2,QJ J K,?_⟩;simp only[Av,OV,Fo.sz] at e4 ⊢;omega
       · cases h
     · cases h
   split at h
   · split at h
     · split at h
       · split at h
         · cases h
         rename_i x D
         split at h
         · cases h
         rename_i y L
         cases h
         exact nw2 (Vb n _ _ _ d.2.2.2.1 d.2.2.2.2.1 D) (Oy n _ _ _ d.2.2.2.2.2.2.1 d.2.2.2.2.2.2.2.1 L) (by simp only[Fo.sz];omega) d.1.2
       · cases h
     · cases h
   split at h
   · split at h
     · split at h
       · split at h
         · cases h
         rename_i x D
         cases h
         exact nw1 (Oy n _ _ _ d.2.2.2.1 d.2.2.2.2.1 D) (by simp only[Fo.sz];omega) d.1.2
       · cases h
     · cases h
   split at h
   · split at h
     · split at h
       · split at h
         · cases h
         rename_i x D
         cases h
         exact nw1 (Oy n _ _ _ d.2.2.2.1 d.2.2.2.2.1 D) (by simp only[Fo.sz];omega) d.1.2
       · cases h
     · cases h
   split at h
   · split at h
     · split at h
       · cases h
       rename_i x D
       cases h
       exact nw1 (Oy n _ _ _ d.1 d.2.1 D) (by simp only[Fo.sz];omega) (Nat.zero_le _)
     · cases h
   · cases h
 · cases h
def EX(f:AB→Fo→R N):Prop:=∀t k a,f t k=.ok a→G7 a.op a.kids
theorem Mw{f:AB→Fo→R N}(d:EX f):∀(D:Fo)(x:Nd),Bi f D=.ok x→x.wfm 0
 |.nil,x,h=>by cases h;exact .inl C
 |.cons t k r,x,h=>by
   unfold Bi at h
   split at h
   · cases h
   rename_i a F
   split at h
   · cases h
   rename_i b G
   cases h
   exact⟨d t k a F,Mw d r b G⟩
theorem IU{f:AB→Fo→R N}:∀(d:Fo)(x:Nd),Bi f d=.ok x→x.len=d.len
 |.nil,x,h=>by cases h;rfl
 |.cons t k r,x,h=>by
   unfold Bi at h
   split at h
   · cases h
   split at h
   · cases h
   rename_i b D
   cases h
   simp only[N.cons,Nd.len,Fo.len,IU r b D]
def PX(f:AB→Fo→R N):Prop:=∀t k a,f t k=.ok a→(21≤a.op∧a.op≤27)∧a.kids.wfm 9
theorem gE{f:AB→Fo→R N}(d:PX f):∀(D:Fo)(x:Nd),Bi f D=.ok x→x.wfm 9
 |.nil,x,h=>by cases h;exact .inr (.inr C)
 |.cons t k r,x,h=>by
   unfold Bi at h
   split at h
   · cases h
   rename_i a F
   split at h
   · cases h
   rename_i b G
   cases h
   exact⟨d t k a F,gE d r b G⟩
theorem dR:∀n,PX (DZ n)
 |0=>λt k a h=>by cases h
 |n+1=>λt k a h=>by
   unfold DZ at h;simp only[need,J3] at h
   repeat' (split at h)
   all_goals first
     |(cases h;done)
     |(cases h;exact⟨⟨by simp[Av],by simp[Av]⟩,.inr (.inr C)⟩)
     |(rename_i d;cases h;exact⟨⟨by simp[Av],by simp[Av]⟩,gE (dR n) _ _ d⟩)
theorem dU{ex:AB→Fo→R N}(hex:EX ex):∀(D:Fo)(x:Nd),Bi (Hj n ex) D=.ok x→x.wfm 1
 |.nil,x,h=>by cases h;exact .inr (.inl C)
 |.cons t k r,x,h=>by
   unfold Bi at h
   split at h
   · cases h
   rename_i a d
   split at h
   · cases h
   rename_i b F
   cases h
   refine⟨?_,dU hex r b F⟩;unfold Hj at d;simp only[need] at d
   repeat' (split at d)
   all_goals first
     |(cases d;done)
     |(rename_i G _ _ _ J;cases d;exact⟨dR n _ _ _ G,hex _ _ _ J⟩)
theorem zL:∀(d:Nd){x:N},G7 x.op x.kids→(d.app x.one).wfm 4
 |.nil,x,h=>.inl ⟨C,h⟩
 |.cons op ln co tx nm k r,x,h=>by
   refine .inr ⟨?_,zL r h⟩
   cases r <;> simp[Nd.app,N.one,N.cons]
theorem oU:∀{x:Nd},x.wfm 0→x.len=3→x.wfm 7
 |.cons _ _ _ _ _ _ (.cons _ _ _ _ _ _ (.cons _ _ _ _ _ _ .nil)),h,_=>⟨h.1,h.2.1,h.2.2.1⟩
 |.nil,_,h=>by cases h
 |.cons _ _ _ _ _ _ .nil,_,h=>by cases h
 |.cons _ _ _ _ _ _ (.cons _ _ _ _ _ _ .nil),_,h=>by cases h
 |.cons _ _ _ _ _ _ (.cons _ _ _ _ _ _ (.cons _ _ _ _ _ _ (.cons _ _ _ _ _ _ _))),_,h=>by simp[Nd.len] at h
theorem mC{ex:AB→Fo→R N}(hex:EX ex){t:AB}{w:lU}{l:Fo}{a:N}(h:Bk n ex t w l=.ok a):G7 a.op a.kids:=by
 unfold Bk at h;simp only[need] at h
 split at h
 · repeat' (split at h)
   all_goals first
     |(cases h;done)
     |(rename_i F;cases h;exact .inr (.inr (.inl ⟨C,zL _ (hex _ _ _ F)⟩)))
 split at h
 · repeat' (split at h)
   all_goals first
     |(cases h;done)
     |(rename_i d _ _ F;cases h;exact .inr (.inr (.inr (.inr (.inl ⟨.inl C,hex _ _ _ d,hex _ _ _ F⟩)))))
 split at h
 · repeat' (split at h)
   all_goals first
     |(cases h;done)
     |(rename_i d _ _ F;cases h;exact .inr (.inr (.inr (.inr (.inl ⟨.inr C,hex _ _ _ d,hex _ _ _ F⟩)))))
 split at h
 · split at h
   · rename_i D
     split at h
     · cases h
     rename_i ks d
     cases h
     have e:=IU _ _ d;have D:=beq_iff_eq.1 D;exact .inr (.inr (.inr (.inr (.inr (.inl ⟨C,oU (Mw hex _ _ d) (show ks.len=3 by omega)⟩)))))
   · cases h
 split at h
 · split at h
   · rename_i D
     split at h
     · cases h
     rename_i ks d
     cases h
     have e:=IU _ _ d;have D:=dT D;exact .inr (.inr (.inr (.inl ⟨.inr C,by show 0<ks.len;omega,Mw hex _ _ d⟩)))
   · cases h
 split at h
 · split at h
   · split at h
     · cases h
     rename_i ks d
     cases h
     exact .inr (.inr (.inr (.inr (.inr (.inr (.inl ⟨C,Mw hex _ _ d⟩))))))
   · cases h
 split at h
 · split at h
   · rename_i D
     split at h
     · cases h
     · split at h
       · cases h
       rename_i x d
       split at h
       · cases h
       rename_i G F
       cases h
       have e:=IU _ _ F;have D:=dT D;simp only[Fo.len] at D;refine .inr (.inr (.inr (.inr (.inr (.inr (.inr (.inl ⟨?_,hex _ _ _ d,by show 0<G.len;omega,dU hex _ _ F⟩)))))));simp only[Av]
       split
       · exact .inr C
       · exact .inl C
   · cases h
 split at h
 · split at h
   · split at h
     · cases h
     rename_i x d
     cases h
     refine .inr (.inr (.inr (.inr (.inr (.inr (.inr (.inr ⟨?_,hex _ _ _ d⟩)))))));simp only[Av]
     split
     · exact .inr C
     · exact .inl C
   · cases h
 · cases h
theorem Oi:∀n,EX (BY n)
 |0=>λ_ _ _ h=>by cases h
 |n+1=>λt k a h=>by
   have D:=Oi n;unfold BY at h;simp only[need] at h
   iterate 4
     split at h
     · cases h;first|exact .inr (.inl ⟨rfl,.inl rfl⟩)|exact .inl (by simp[Av])
   split at h
   · split at h
     · cases h;exact .inl (by simp[Av])
     · cases h
   split at h
   · cases h;exact .inl (by simp[Av])
   split at h
   · split at h
     · split at h
       · cases h
       rename_i ks d
       cases h
       exact .inr (.inl ⟨C,Mw D _ _ d⟩)
     · cases h
   split at h
   · exact mC D h
   · split at h
     · split at h
       · cases h
       rename_i ks d
       cases h
       have e:=IU _ _ d;exact .inr (.inr (.inr (.inl ⟨.inl C,by show 0<ks.len;rw[e];exact Nat.succ_pos _,Mw D _ _ d⟩)))
     · cases h
theorem tP{t:AB}{k:Fo}{a:N}(h:CO n t k=.ok a):a.op=41∨(a.op=43∧a.kids.wfm 2)∨((a.op=44∨a.op=45∨a.op=46)∧a.kids.wfm 3):=by
 unfold CO at h;simp only[need] at h
 split at h
 · cases h
 split at h
 · split at h
   · repeat' (split at h)
     all_goals first
       |(cases h;done)
       |(cases h;exact .inl C)
   split at h
   · repeat' (split at h)
     all_goals first
       |(cases h;done)
       |(rename_i d;cases h;exact .inr (.inl ⟨C,Oi n _ _ _ d⟩))
   split at h
   · repeat' (split at h)
     all_goals first
       |(cases h;done)
       |(rename_i d;cases h;exact .inr (.inr ⟨.inl C,Oi n _ _ _ d⟩))
   split at h
   · repeat' (split at h)
     all_goals first
       |(cases h;done)
       |(rename_i d;cases h;exact .inr (.inr ⟨.inr (.inl C),Oi n _ _ _ d⟩))
   split at h
   · repeat' (split at h)
     all_goals first
       |(cases h;done)
       |(rename_i d;cases h;exact .inr (.inr ⟨.inr (.inr C),Oi n _ _ _ d⟩))
   · cases h
 · cases h
theorem bT:∀(d:Fo)(x:Nd),Bi (CO n) d=.ok x→x.wft
 |.nil,x,h=>by cases h;trivial
 |.cons t k r,x,h=>by
   unfold Bi at h
   split at h
   · cases h
   rename_i a D
   split at h
   · cases h
   rename_i b F
   cases h
   exact⟨tP D,bT r b F⟩
theorem Q4:∀(a:Fo)(t:AB)(k:Fo),(a.snoc t k).sz=a.sz+k.sz+1
 |.nil,_,_=>by simp[Fo.snoc,Fo.sz]
 |.cons _ _ r,t,k=>by simp only[Fo.snoc,Fo.sz,Q4 r t k];omega
def Y0:List (AB×Fo)→Nat
 | []=>0
 |(_,p)::s=>p.sz+1+Y0 s
theorem Ls:∀(l:List AB)(st:List (AB×Fo))(cur d:Fo),Bt l st cur=.ok d→d.sz≤Y0 st+cur.sz+l.length
 | [],[],cur,d,h=>by simp only[Bt] at h;cases h;simp[Y0]
 | [],(o,p)::s,cur,d,h=>by unfold Bt at h;split at h <;> cases h
 |k::l,st,cur,d,h=>by
   unfold Bt at h
   split at h
   · split at h
     · cases h
     · have:=Ls l _ _ _ h
       simp only[Y0,Fo.sz,List.length_cons] at this ⊢;omega
   · split at h
     · cases st with
       |nil=>cases h
       |cons op s =>
         have:=Ls l _ _ _ h;simp only[Y0,Q4,List.length_cons] at this ⊢;omega
     · have:=Ls l _ _ _ h
       simp only[Q4,Fo.sz,List.length_cons] at this ⊢;omega
structure WfN(nds:Nd):Prop where
 wft:nds.wft
 txb:nds.txb
 size:nds.size≤200000
theorem lJ(n:Nat)(src:lU):WfN (Lz n (LQ src)).1:=by
 unfold Lz
 cases G:LQ src with
 |error e=>exact⟨tQ,tQ,Nat.zero_le _⟩
 |ok d =>
   obtain⟨Q,J⟩:=X7 G;simp only
   cases F:Bt d [] .nil with
   |error e=>exact⟨tQ,tQ,Nat.zero_le _⟩
   |ok D =>
     simp only
     cases he:Bi (CO n) D with
     |error e=>exact⟨tQ,tQ,Nat.zero_le _⟩
     |ok nds =>
       have K:=(GU d 0 [] .nil D J oM (by simp) tQ tQ (by simp[Fo.len]) (by rfl) F).1;have L:=Ls d [] .nil D F;obtain⟨O,U,_⟩:=Jg (yC n) D nds K he;simp only[Y0,Fo.sz] at L;exact⟨bT D nds he,O,by show nds.size≤_;omega⟩
theorem e4{a b:Int}:((a,b,4):Er).2.2≠0:=(by decide:(4:Int)≠0)
section
variable{s:CS}{e:By}{ln co:Int}{tx:lU}{t u:T1}{x:Er}
end
def EcF(p:MG):Prop:=∀{s e op ln co tx nm k x},p s e op ln co tx nm k=.error x→x.2.2≠0
def EcP(p:OE):Prop:=∀{s e op ln co tx nm k x},p s e op ln co tx nm k=.error x→x.2.2≠0
section
variable{p:MG}(hp:EcF p)
include hp
variable{q:OE}(hq:EcP q)
include hq
end
end Go.SP
namespace Go.Proofs.YtplnpgpagkpnmaaGreatDoor
open Go.SW Go.SP Go.RowKit Go.Proofs.Tryz
abbrev RB:=RI (List (lU×lU))
def GH(src:lU):RB:=bif (FD src).2.2.2==0 then ER (FD src).1 else .error ((FD src).2.1,(FD src).2.2.1,(FD src).2.2.2)
def erR:RB→Int×Int×Int
 |.error e=>e
 |.ok _=>(0,0,0)
def bsR:RB→List (lU×lU)
 |.error _=>[]
 |.ok l=>l
abbrev inV(r:RB)(x:oA×Nat):Value:=.tuple #[.slice x.1 (bsR r).length x.2,.agg #[.int .i64 (erR r).1,.int .i64 (erR r).2.1],.int .i64 (erR r).2.2]
def InV(r:RB)(w:wO)(f:Fq):Value→wO→Prop:=AF (α:=oA×Nat) (inV r) (λ_=>True) (λx=>[λw f=>MB w f (bsR r) x.1 x.2]) w f
variable {f:Fq}{a:oA}{w w':wO}{src:lU}
theorem XN.out{nds:Nd}{v:Value}(h:XN nds w f v w'):InV (ER nds) w f v w':=by
 obtain⟨f',d,h⟩:=h
 cases D:ER nds with
 |error er =>
   rw[D] at h;exact⟨(none,0),f',h,tQ,d,⟨Nat.zero_le _,.inl C⟩,tQ⟩
 |ok J =>
   rw[D] at h;obtain⟨a,c,F,G⟩:=h;exact⟨(a,c),f',F,tQ,d,G,tQ⟩
theorem fX(w:wO)(f:Fq)(J:Vl w f)(K:EY w f)(nds:Nd)(d:oA)(nc:Nat)(D:nds.wft)(F:nds.size≤200000)(G:nds.txb)(L:AJ w f nds d nc) :
   AO prog 10 #[.slice d nds.len nc] w (InV (ER nds) w f):=(VX w f J K nds d nc D F G L).mono λ_ _ h=>XN.out h
theorem O6(src:lU):WfN (FD src).1:=lJ 200 src
theorem fM(h:(FD src).2.2.2=0):GH src=ER (FD src).1:=by unfold GH;rw[h];rfl
theorem eM(h:(FD src).2.2.2≠0):GH src=.error ((FD src).2.1,(FD src).2.2.1,(FD src).2.2.2):=by
 unfold GH;rw[show ((FD src).2.2.2==0)=false by simpa using h];rfl
def fD:lU:=[40,100,101,102,32,105,100,32,40,102,110,32,40,120,41,32,120,41,41,32,40,100,101,102,32,114,32,40,114,101,102,32,49,41,41]
def cX:lU:=[40,100,111,32,40,43,32,49,32,34,97,34,41,41]
def uL:List (lU×lU):=[([105,100],[40,45,62,32,39,97,32,39,97,41]),([114],[40,114,101,102,32,105,110,116,41])]
set_option maxRecDepth 100000 in
theorem xT:GH fD=.ok uL:=kR
set_option maxRecDepth 100000 in
theorem tU:GH cX=.error (1,10,11):=kR
theorem len_app:∀(a b:Nd),(a.app b).len=a.len+b.len
 |.nil,b=>(Nat.zero_add _).symm
 |.cons _ _ _ _ _ _ r,b=>by show (r.app b).len+1=r.len+1+b.len;rw[len_app r b];omega
theorem MB.opn{l:List (lU×lU)}{c:Nat}(h:MB w f l a c)(d:l≠[]):∃x:Nat×Nat,a=some ⟨x.1,x.2,none⟩∧Cs w f x.1 x.2 (bC l) :=
 h.2.elim (λh=>absurd h d) λ⟨b,off,D,F⟩=>⟨(b,off),D,F⟩
end Go.Proofs.YtplnpgpagkpnmaaGreatDoor
namespace Go.Proofs.YtplnpgpagkpnmaaGreatDoor
open Go.SW Go.SP Go.RowKit Go.Lib
section
variable{P:Program}{w:World}
theorem QC{g:Nat}{t:TypeId}{k:IntKind}{zero:Array Value}(h:w.ShapedOpen P)(O:g<P.globals.size)
   (Q:((begin P (λ_ _=>0) default).world.heap[g]?).bind Obj.row?=some (zero,t)) (hz:zero.size=1)
   (U:P.buildable t=true) (W:P.cellTypes P.depth t=some [t]) (hu:P.underlying t=some (.int k)):∃m,w.cell? ⟨g,0,none⟩=some (.int k m):=by
 obtain⟨cs,Y,hs,Z⟩:=h.1 g zero t O Q;obtain⟨ts,F,_,G⟩:=Z U;rw[W] at F
 cases F
 have K:0<cs.size:=oM;obtain⟨u,J,d⟩:=G 0 cs[0] (by simp[K]);have:u=t:=by simpa using J.symm
 subst this;have D:w.cell? ⟨g,0,none⟩=some cs[0]:=by simp[World.cell?,Y,K]
 rw[D];unfold Cell.ok at d;rw[hu] at d
 cases L:cs[0] with
 |int k' m =>
   rw[L] at d
   have hk:k'=k:=by
     simp at d;exact d.1
   exact⟨m,by rw[hk]⟩
 |_=>rw[L] at d;simp at d
theorem Jm{n:String}{g:Nat}{cs:Array Value}(d:P.globalNamed n=some g)(h:w.var? P n=some cs)(o:Nat):w.cell? ⟨g,o,none⟩=cs.toList[o]?:=by
 rw[World.var?_cell d h o,Array.getElem?_toList]
theorem V8{n:String}{g:Nat}{t:TypeId}{b:Bool}(F:P.globalNamed n=some g)(G:(P.globals[g]?).map (·.type)=some t)(J:P.underlying t=some .bool)(h:VarReads P w n (.lit (.bool b))):w.cell? ⟨g,0,none⟩=some (.bool b):=by
 obtain⟨Q,t',cs,fuel,p,K,D,d,hd⟩:=h;obtain rfl:=Option.some.inj (F.symm.trans K);obtain rfl:=Option.some.inj (G.symm.trans D);obtain⟨U,L,O⟩:=DataW.trod_bool J hd;rw[Jm F d,L]
 cases O
 rfl
theorem Sm{n:String}{g:Nat}{t:TypeId}{ms}{d:DataW Unit}(G:P.globalNamed n=some g)(J:(P.globals[g]?).map (·.type)=some t)(K:P.underlying t=some (.interface ms))(h:VarReads P w n d) :
   ∃v,w.cell? ⟨g,0,none⟩=some v∧(v=.nilIface∨∃te pe,v=.iface te pe):=by
 obtain⟨Q,t',cs,fuel,p,L,F,D,hd⟩:=h;obtain rfl:=Option.some.inj (G.symm.trans L);obtain rfl:=Option.some.inj (J.symm.trans F);rw[Jm G D]
 cases fuel with
 |zero=>simp[DataW.trod] at hd
 |succ fuel =>
   unfold DataW.trod at hd;rw[K] at hd;generalize cs.toList=l at hd
   split at hd
   all_goals first
     |(rename_i heq;cases heq;done)
     |(rename_i O U;cases O;done)
     |(exact⟨_,rfl,.inl rfl⟩)
     |(exact⟨_,rfl,.inr ⟨_,_,rfl⟩⟩)
     |cases hd
theorem Uj{n:String}{g:Nat}{t:TypeId}{fs:Array Field}{f:Field}{k:IntKind}{z:Int}{ds:List (DataW Unit)}(U:P.globalNamed n=some g)(W:(P.globals[g]?).map (·.type)=some t)(Y:P.underlying t=some (.struct fs))
   (Z:fs[0]?=some f) (G:f.offset=0) (J:P.underlying f.type=some (.int k)) (K:P.cellsOf f.type=1) (h:VarReads P w n (.agg (.lit (.int k z)::ds))):w.cell? ⟨g,0,none⟩=some (.int k z):=by
 obtain⟨g',t',cs,fuel,p,hg,L,d,hd⟩:=h;obtain rfl:=Option.some.inj (U.symm.trans hg);obtain rfl:=Option.some.inj (W.symm.trans L);obtain⟨xs,m,rfl,hx,hl,hxl,D⟩:=DataW.trod_struct Y hd;have h0:=D 0 f Z;have e0:xs.map (·.1)=.lit (.int k z)::ds:=by have:=congrArg Prod.fst hx;simpa using this.symm
 cases xs with
 |nil=>cases e0
 |cons x xs =>
   simp only[List.map_cons,List.cons.injEq] at e0;obtain⟨z',hz,O,_⟩:=DataW.trod_int J (h0.trans (by rfl));rw[Jm U d]
   have Q:z'=z:=by
     have:=O▸e0.1;simpa using this
   subst Q;rw[G,K,List.drop_zero] at hz
   cases F:cs.toList with
   |nil=>rw[F] at hz;cases hz
   |cons c r=>rw[F] at hz;simp at hz;simp[hz]
variable {e:TypeId}
theorem TI{n:String}{g:Nat}{t:TypeId}{l:List (DataW Unit)}{c:Nat}{m:Int}(Q:P.globalNamed n=some g)(Y:(P.globals[g]?).map (·.type)=some t)(Z:P.underlying t=some (.array 256 e))(he:P.underlying e=some (.int .u8))(G:P.cellsOf e=1)
   (h:VarReads P w n (.agg l)) (hc:c<256) (U:l[c]?=some (.lit (.int .u8 m))):w.cell? ⟨g,c,none⟩=some (.int .u8 m):=by
 obtain⟨g',t',cs,fuel,p,hg,J,d,hd⟩:=h;obtain rfl:=Option.some.inj (Q.symm.trans hg);obtain rfl:=Option.some.inj (Y.symm.trans J);obtain⟨xs,k,rfl,hx,hcl,hxl,D⟩:=DataW.trod_array Z hd;have e0:xs.map (·.1)=l:=by have:=congrArg Prod.fst hx;simpa using this.symm
 have K:=D c hc;rw[G,Nat.mul_one] at K;have F:xs[c]?=some (xs[c]'oM):=List.getElem?_eq_getElem oM;rw[F] at K;obtain⟨z,hz,L,_⟩:=DataW.trod_int he K;have e1:l[c]?=some ((xs[c]'oM).1):=by rw[← e0,List.getElem?_map,F];rfl
 rw[e1,L] at U;have O:z=m:=by simpa using U
 subst O;rw[Jm Q d];have W:((cs.toList.drop c).take 1)[0]?=some (.int .u8 z):=by rw[hz];rfl
 rw[List.getElem?_take] at W;simpa using W
theorem RA{n:String}{g:Nat}{t:TypeId}{k:FloatKind}{l:List Nat}(hn:P.globalNamed n=some g)(hy:(P.globals[g]?).map (·.type)=some t)(ht:P.underlying t=some (.slice e))(he:P.underlying e=some (.float k))(hc:P.cellsOf e=1)
   (hl:0<l.length) (h:VarReads P w n (.slice (l.map λx=>.lit (.float k x)) [])):∃b off len cap,w.cell? ⟨g,0,none⟩=some (.slice (some ⟨b,off,none⟩) len cap)∧l.length≤len∧∀(j v:Nat),l[j]?=some v→w.cell? ⟨b,off+j,none⟩=some (.float k v):=by
 obtain⟨g',t',cs,fuel,p,hg,O,G,hd⟩:=h;obtain rfl:=Option.some.inj (hn.symm.trans hg);obtain rfl:=Option.some.inj (hy.symm.trans O);rcases DataW.trod_slice ht hd with ⟨_,Q⟩|⟨a,len,cap,el,rs,m,rfl,U,Q,_,hlc,_,hel,F,hsp,_⟩
 · cases Q
 have e0:=congrArg Prod.fst Q;simp only[DataW.slice.injEq] at e0;have hlen:len=l.length:=by have:=congrArg List.length e0.1;simp at this;omega
 have d:∀(j v:Nat),l[j]?=some v→w.cell? (a.add j)=some (.float k v):=by
   intro j v L;obtain⟨hj,hjv⟩:=List.getElem?_eq_some_iff.1 L;have W:=F j oM;rw[hc,Nat.mul_one] at W;obtain⟨b,hb⟩:∃b,el[j]?=some b:=⟨el[j]'oM,List.getElem?_eq_getElem oM⟩;rw[hb] at W;obtain⟨ce,Y,D⟩:=Option.bind_eq_some_iff.1 W
   have Z:b.1=.lit (.float k v):=by
     have:=congrArg (·[j]?) e0.1;simp[hb,L] at this;exact this.symm
   have J:ce=[.float k v]:=by
     cases m with
     |zero=>simp[DataW.trod] at D
     |succ m =>
       unfold DataW.trod at D;rw[he] at D
       split at D <;> simp_all
       obtain⟨⟨rfl,_⟩,rfl⟩:=D;simpa using Z
   obtain⟨_,_,hcc⟩:=World.cells?_some Y;have h0:=hcc 0 oM;rw[J] at h0;have e1:(a.add j).add 0=a.add j:=by simp[Addr.add]
   rw[e1] at h0;exact h0
 obtain⟨R,o,sR⟩:=a
 obtain rfl:sR=none:=by
   obtain⟨v0,hv0⟩:∃v,l[0]?=some v:=⟨l[0],List.getElem?_eq_getElem hl⟩;have K:=d 0 v0 hv0;have:(Addr.add ⟨R,o,sR⟩ 0)=⟨R,o,sR⟩:=by simp[Addr.add]
   rw[this] at K;exact Go.Proofs.cell_spot K
 refine⟨R,o,len,cap,?_,oM,λj v L=>?_⟩
 · rw[Jm hn G,U];rfl
 · have:=d j v L
   rwa[D5] at this
end
end Go.Proofs.YtplnpgpagkpnmaaGreatDoor
namespace Go.SW
open Go.RowKit
def mJ(w:wO):Fq:=λb=>match w.heap[b]? with
 |some (.cells cs _ _)=>cs.size
 |_=>0
theorem xZ(w:wO):Vl w (mJ w):=λb h=>by
 unfold mJ;rw[Array.getElem?_eq_none h]
variable {b o:Nat}{w:wO}
theorem Lr{v:Value}(h:w.cell? ⟨b,o,none⟩=some v):o<mJ w b:=by
 unfold mJ;unfold World.cell? at h
 cases d:w.heap[b]? with
 |none=>rw[d] at h;cases h
 |some x =>
   rw[d] at h
   cases x with
   |cells c e fr=>simpa using (Array.getElem?_eq_some_iff.1 h).1
   |_=>cases h
end Go.SW
namespace Go.Proofs.YtplnpgpagkpnmaaGreatDoor
open Go.SW Go.SP Go.RowKit Go.Lib Go.ChangeShapes Go.WideShapes Go.ChangeAt
theorem own:ownKnob Tryz.prog.godebug=none:=kR
def VN:List Nat:=[4607182418800017408,4621819117588971520,4636737291354636288,4652007308841189376,4666723172467343360,4681608360884174848,4696837146684686336,4711630319722168320,4726483295884279808,4741671816366391296,4756540486875873280,4771362005757984768,4786511204640096256,4801453603149578240,4816244402031689728,4831355200913801216,4846369599423283200,4861130398305394688,4876203697187506176,4891288408196988160,4906019910204099648,4921056587992461136,4936209963552724370]
variable {args:Array Value}{fid:FuncId}{j:Nat}{W:World}
theorem Ye{v:Nat}(h:FW[j]?=some v):VN[j]?=some v:=by
 have e:FW=VN.take 15:=rfl;rw[e,List.getElem?_take] at h
 split at h
 · exact h
 · cases h
abbrev X8:List (String×DataW Unit):=Rows.inferBigRow.laid
theorem Li(k:Nat){n:String}{d:DataW Unit}(h:laidMet Tryz.prog X8 W)(D:X8[k]?=some (n,d):=by rfl):VarReads Tryz.prog W n d:=laidMet.reads h (List.mem_of_getElem? D)
theorem wJ:(Rows.laid_strings_asciiSpace:DataW Unit)=.agg ((List.range 256).map λc=>.lit (.int .u8 (if Lib.isSp (UInt8.ofNat c) then 1 else 0))):=kR
theorem gl_of(h:laidMetH Tryz.prog X8 W)(F:W.ShapedOpen Tryz.prog):Gl W∧∀c:Nat,c<256→W.cell? ⟨0,c,none⟩=some (.int .u8 (if Lib.isSp (UInt8.ofNat c) then 1 else 0)):=by
 rw[MakeChecks.laidMetH_plain _ _ _ (by kernel_rfl)] at h;refine⟨⟨?_,?_,?_,?_,?_⟩,?_⟩
 · exact QC (t:=3) (zero:=#[.int .i64 0]) F (of_decide_eq_true kR) kR kR kR kR Tryz.underlying3
 · obtain⟨ms,hm⟩:=HE (show Zz Tryz.prog 267=true by kernel_rfl)
   exact Sm (t:=267) kR kR hm (Li 10 h)
 · exact V8 (t:=4) kR kR Tryz.underlying4 (Li 4 h)
 · exact Uj (t:=360) kR kR (fs:=Tryz.prog.fieldsOf 360) kR (f:=(Tryz.prog.fieldsOf 360)[0]!) kR kR kR kR
     (Li 3 h)
 · obtain⟨b,off,n,c,G,J,K⟩:=RA (l:=VN) kR kR (t:=395) (e:=239) kR kR kR dC (Li 6 h)
   exact⟨b,off,n,c,G,Nat.le_trans dC J,λj v L=>K j v (Ye L)⟩
 · intro c d
   have D:=Li 13 h;rw[wJ] at D;exact TI (t:=252) (e:=5) kR kR kR kR kR D d (by rw[List.getElem?_map,List.getElem?_range d];rfl)
theorem rH(h:laidMetH Tryz.prog X8 W)(F:W.ShapedOpen Tryz.prog):Da W (mJ W)∧EY W (mJ W):=by
 obtain⟨⟨⟨m,hm⟩,⟨v,G,J⟩,K,L,⟨b,off,n,c,O,Q,U⟩⟩,h8⟩:=gl_of h F;refine⟨λw' f' Y=>?_,⟨m,λj v d=>?_⟩,λc D=>⟨Lr (h8 c D),h8 c D⟩⟩
 · have k:∀{b o:Nat}{v:Value},W.cell? ⟨b,o,none⟩=some v→w'.cell? ⟨b,o,none⟩=some v:=λ{b o v} h=>((Y b).2 o (Lr h)).trans h
   exact⟨⟨m,k hm⟩,⟨v,k G,J⟩,k K,k L,⟨b,off,n,c,k O,Q,λj v Z=>k (U j v Z)⟩⟩
 · cases j with
   |zero=>cases d;exact⟨Lr hm,hm⟩
   |succ j=>cases d
theorem gS(h:AO Tryz.prog fid args W (AF (α:=Unit) (λ_=>.bool true) (λ_=>True) (λ_=>[]) W (mJ W))):AO Tryz.prog fid args W λv w'=>v=.bool true∧AT W w' :=
 h.mono λ_ _ ⟨_,_,d,_,D,_⟩=>⟨d,D.stp.ext⟩
end Go.Proofs.YtplnpgpagkpnmaaGreatDoor
namespace Go.Proofs.YtplnpgpagkpnmaaGreatDoor
open Go.SW Go.SP Go.RowKit Go.Proofs.Tryz
theorem Ix(w:wO)(f:Fq)(D:Vl w f)(F:Da w f)(G:EY w f)(src:lU) :
   AO prog 5 #[S src] w (InV (GH src) w f):=by
 refine Dq [λw f=>Da w f,λw f=>EY w f] func5 C C C (AR D ⟨F,G,tQ⟩ ⟨Da.mono,EY.mono,tQ⟩)<|Aa 10 (λb1=>λ_=>BV C C (eC qent9 C C) (λw f d=>fO w f d.vl d.f0 src) (λ_=>⟨AJ.mono,tQ⟩) ?_);rintro⟨J,nc⟩ -;dsimp only;refine Af 17 [0] (λb2=>y<|λ_=>A6 15 C C (λh=>?_) (λh=>?_));exact Aa 2 (λ_=>Ca [0] Aj (rd [0,1,2] (.br 3 (.rd 4 .fin) .fin)) C kR<|Bh 3 [0] (y<|λ_=>Ah C<|Af 2 [1] (y<|λ_=>Am [0] C<|AN 1 (λ_=>Bp<|Aa 3 (λ_=>AK (λw f d=>Ez C (Ak C) (Ac C FH d.k1 C) (Ak C)) (λw f d=>(by rw[eM (by simpa using h)];exact⟨(none,0),f,C,tQ,d.exm,⟨Nat.zero_le _,.inl C⟩,tQ⟩)))))));refine Aa 6 (λ_=>BV C C (eC sN C C) (λw f d=>fX w f d.vl d.f2 _ J nc (O6 src).wft (O6 src).size (O6 src).txb d.f0) (λ_=>⟨MB.mono,tQ⟩) ?_);rintro⟨a,c⟩ -;exact Af 9 [1] (y<|λ_=>AK (λw f d=>Ez C (Ak C) (Ac C FH d.k1 C) (Ak C)) (λw f d=>(by rw[fM (by simpa using h)];exact⟨(a,c),f,C,tQ,d.exm,d.f0,tQ⟩)))
theorem Tk(w:wO)(f:Fq)(d:Vl w f)(D:Da w f)(F:EY w f):AO prog 5 #[S fD] w (AF (α:=oA×Nat) (λx=>.tuple #[.slice x.1 2 x.2,.agg #[iV 0,iV 0],iV 0]) (λ_=>True) (λx=>[λw f=>MB w f uL x.1 x.2]) w f):=by
 have h:=Ix w f d D F fD;rw[xT] at h;exact h
theorem SN(w:wO)(f:Fq)(d:Vl w f)(D:Da w f)(F:EY w f):AO prog 5 #[S cX] w (AF (α:=oA×Nat) (λx=>.tuple #[.slice x.1 0 x.2,.agg #[iV 1,iV 10],iV 11]) (λ_=>True) (λx=>[λw f=>MB w f ([]:List (lU×lU)) x.1 x.2]) w f):=by
 have h:=Ix w f d D F cX;rw[tU] at h;exact h
theorem M4(w:wO)(f:Fq)(h:Vl w f)(D:Da w f)(F:EY w f) :
   AO prog 8 #[] w (AF (α:=Unit) (λ_=>.bool true) (λ_=>True) (λ_=>[]) w f):=by
 refine Dq [λw f=>Da w f,λw f=>EY w f] func8 C C C (AR h ⟨D,F,tQ⟩ ⟨Da.mono,EY.mono,tQ⟩)<|Aa 7 (λ_=>BV C C (eC WO C C) (λw f d=>Tk w f d.vl d.f0 d.f1) (λ_=>⟨MB.mono,tQ⟩) ?_);rintro⟨G,L⟩ -;refine Ja (α:=Nat×Nat) (λx=>G=some ⟨x.1,x.2,none⟩) (λx=>[⟨x.1,x.2,bC uL⟩]) (λx=>[]) (λw f d=>let ⟨x,J,K⟩:=MB.opn d.f0 (List.cons_ne_nil _ _);⟨x,J,oE K,nE⟩) (λx=>Ap.mem tQ) ?_;rintro⟨O,Q⟩ rfl;refine Af 12 [0] (λb1=>y<|λ_=>BV C C (eC WO C C) (λw f d=>SN w f d.vl d.f1 d.f2) (λ_=>⟨MB.mono,tQ⟩) ?_);rintro⟨U,dc⟩ -;exact Af 40 [0,100,1,100,3,0] (λb2=>y<|aI dC<|y2<|aI dC<|y2<|y<|λ_=>Cz C C (λw f d=>NU Uq C C)<|Aa 5 (λ_=>AK (Cy C C) (λw f d=>⟨(),f,C,tQ,d.exm,tQ⟩)))
end Go.Proofs.YtplnpgpagkpnmaaGreatDoor
namespace Go.SP
def IM(c:UInt8):Bool:=c==32||c==40||c==41
def Eu(c:UInt8):Bool:=decide (97≤c.toNat)&&decide (c.toNat≤122)
def I3(c:UInt8):Bool:=decide (48≤c.toNat)&&decide (c.toNat≤57)
def rC(w:lU):Bool:=w==[49]||(match w with|c::t=>Eu c&&t.all (λc=>Eu c||I3 c) | []=>false)&&decide (w.length≤40)
def Uo(w:lU)(i:Nat):AB:=if w==[49] then ⟨2,1,(i:Int)+1,1,[]⟩ else ⟨5,1,(i:Int)+1,0,w⟩
def Gh:lU→lU
 | []=>[]
 |c::s=>if IM c then [] else c::Gh s
def Ci:Nat→Nat→lU→Option (List AB)
 |0,_,s=>if s.isEmpty then some [] else none
 |_+1,_,[]=>some []
 |n+1,i,c::s =>
   if c==32 then Ci n (i+1) s
   else if c==40 then (Ci n (i+1) s).map (⟨0,1,(i:Int)+1,0,[]⟩ :: ·)
   else if c==41 then (Ci n (i+1) s).map (⟨1,1,(i:Int)+1,0,[]⟩ :: ·)
   else if rC (Gh (c::s)) then (Ci n (i+(Gh (c::s)).length) ((c::s).drop (Gh (c::s)).length)).map (Uo (Gh (c::s)) i :: ·)
   else none
def DB:Nat→Nat→List AB→Option (Fo×List AB×Bool)
 |0,_,_=>none
 |_+1,_,[]=>some (.nil,[],false)
 |n+1,d,t::l =>
   if t.k==1 then (if d==0 then none else some (.nil,l,true))
   else if t.k==0 then (if d==200 then none else match DB n (d+1) l with
     |some (x,D,true)=>(match DB n d D with
       |some (y,h,b)=>some (.cons t x y,h,b)
       |none=>none)
     |_=>none)
   else match DB n d l with
     |some (y,h,b)=>some (.cons t .nil y,h,b)
     |none=>none
def IC:Nat→List AB→Nat
 |k,[]=>k
 |k,t::l=>IC (if t.k==0 then k+1 else if t.k==1 then k-1 else k) l
def Kl:List lU:=[[102,110],[108,101,116],[114,101,99],[105,102],[115,101,113],[116,117,112,108,101],[99,97,115,101],[116,114,121],[114,97,105,115,101],[116,114,97,110,115,97,99,116],[100,97,116,97],[114,111,111,116],[100,101,102],[100,111]]
def YH:lU:=[108,101,116]
def Zj:lU:=[116,117,112,108,101]
def fK:lU:=[100,101,102]
def rDo:lU:=[100,111]
def RJ(t:AB):Bool:=t.k==5&&!Kl.contains t.tx&&(match t.tx with|c::_=>Eu c | []=>false)
def FJ:Nat→AB→Fo→Option N
 |0,_,_=>none
 |n+1,t,l =>
   if t.k==2 then some ⟨1,t.ln,t.co,t.tx,t.nm,.nil⟩
   else if t.k==5 then (if RJ t then some ⟨5,t.ln,t.co,t.tx,0,.nil⟩ else none)
   else if t.k==0 then (match l with
     |.cons h _ (.cons a d (.cons b bk r)) =>
       if h.k==5&&h.tx==Zj then (match r with
         |.nil=>(match FJ n a d,FJ n b bk with
           |some x,some y=>some ⟨13,t.ln,t.co,t.tx,0,x.cons y.one⟩
           |_,_=>none)
         |_=>none)
       else if h.k==5&&h.tx==YH&&RJ a then (match r with
         |.cons c D .nil=>(match FJ n b bk,FJ n c D with
           |some x,some y=>some ⟨9,t.ln,t.co,a.tx,0,x.cons y.one⟩
           |_,_=>none)
         |_=>none)
       else none
     |_=>none)
   else none
def cM(n:Nat)(t:AB):Fo→Option N
 |.cons h _ (.cons a d r) =>
   if t.k==0&&h.k==5&&h.tx==fK&&RJ a then (match r with
     |.cons b bk .nil=>(FJ n b bk).map λx=>⟨44,t.ln,t.co,a.tx,0,x.one⟩
     |_=>none)
   else if t.k==0&&h.k==5&&h.tx==rDo then (match r with
     |.nil=>(FJ n a d).map λx=>⟨46,t.ln,t.co,[],0,x.one⟩
     |_=>none)
   else none
 |_=>none
def M9(n:Nat):Fo→Option Nd
 |.nil=>some .nil
 |.cons t k r=>match cM n t k,M9 n r with
   |some x,some y=>some (x.cons y)
   |_,_=>none
def P5(src:lU):Option Nd:=match Ci src.length 0 src with
 |none=>none
 |some l=>match DB (l.length+1) 0 l with
   |some (x,[],false)=>if IC 0 l==0 then M9 100 x else none
   |_=>none
def Pu:Ty→Nat→Nat
 |.nil,n=>n
 |.var _ r,n=>if n≤1000 then Pu r (n+1) else n
 |.con _ k r,n=>if n≤1000 then Pu r (Pu k (n+1)) else n
def HR:T1→Nat
 |.var _=>1
 |.con _ k=>Pu k 1
abbrev Cn:=List (lU×T1)
def Dk(ln co:Int)(t:T1):Except Er T1:=if HR t>1000 then .error (ln,co,4) else .ok t
def Gf:Nat→Cn→Int→Int→Int→lU→Nd→Option (Except Er T1)
 |0,_,_,_,_,_,_=>none
 |n+1,e,op,ln,co,tx,k =>
   if op==1 then some (Dk ln co (.con [105,110,116] .nil))
   else if op==5 then (Bo e tx).map (Dk ln co)
   else match k with
     |.cons d h D F _ k1 (.cons G J c2 K _ k2 .nil) =>
       if op==13 then (match Gf n e d h D F k1 with
         |some (.ok t)=>(match Gf n e G J c2 K k2 with
           |some (.ok u)=>some (Dk ln co (.con [116,117,112,108,101] (t.cons u.one)))
           |r=>r)
         |r=>r)
       else if op==9&&tx != [95] then (match Gf n e d h D F k1 with
         |some (.ok t)=>(match Gf n ((tx,t)::e) G J c2 K k2 with
           |some (.ok u)=>some (Dk ln co u)
           |r=>r)
         |r=>r)
       else none
     |_=>none
def shR:T1→Option lU
 |.con tx .nil=>some tx
 |_=>none
def uD:Nat→Cn→Nd→Option (Except Er (List (lU×lU)))
 |_,_,.nil=>some (.ok [])
 |n,e,.cons op _ _ tx _ (.cons o l c x _ k .nil) r =>
   if op==44||op==46 then (match Gf n e o l c x k with
     |some (.ok t)=>(match shR t,uD n (if op==44 then (tx,t)::e else e) r with
       |some s,some (.ok q)=>some (.ok ((if op==44 then tx else [],s)::q))
       |some _,w=>w
       |none,_=>none)
     |some (.error er)=>some (.error er)
     |none=>none)
   else none
 |_,_,_=>none
def WY:Nat→lU
 |0=>[120,48]
 |i+1=>[120,UInt8.ofNat (97+i)]
def gF:Nat→lU
 |0=>[40,100,101,102,32,120,48,32,49,41,32,40,100,111,32]
 |i+1=>gF i++[40,108,101,116,32,120]++[UInt8.ofNat (97+i)]++[32,40,116,117,112,108,101,32]++WY i++[32]++WY i++[41,32]
def iN:Nat→lU
 |0=>[41]
 |i+1=>[41]++iN i
def Lg(c:Nat):lU:=gF c++[49]++iN c
end Go.SP
namespace Go.Proofs.YtplnpgpagkpnmaaGreatDoor
open Go.SW Go.SP Go.RowKit
def WV(c:Nat):Bool:=match P5 (Lg c) with
 |none=>false
 |some x=>decide (x.size≤50000)&&decide ((Lg c).length≤60000)&&match uD 100 [] x,GH (Lg c) with
   |some (.ok _),.ok _=>decide (c≤8)
   |some (.error e),.error d=>decide (8<c)&&(e.1==d.1&&(e.2.1==d.2.1&&(e.2.2==4&&d.2.2==4)))
   |_,_=>false
set_option maxRecDepth 1000000 in
theorem big1:((List.range 8).all λc=>WV (c+1))=true:=kR
set_option maxRecDepth 1000000 in
theorem big2:((List.range 6).all λc=>WV (c+9))=true:=kR
theorem yL{c:Nat}(d:1≤c)(D:c≤14):WV c=true:=by
 rcases Nat.lt_or_ge c 9 with h|h
 · have:=List.all_eq_true.1 big1 (c-1) (List.mem_range.2 oM)
   rwa[show c-1+1=c by omega] at this
 · have:=List.all_eq_true.1 big2 (c-9) (List.mem_range.2 oM)
   rwa[show c-9+9=c by omega] at this
theorem XB{c:Nat}(F:1≤c)(G:c≤14):∃x,P5 (Lg c)=some x∧x.size≤50000∧(Lg c).length≤60000 ∧
   ((c≤8∧∃o l,uD 100 [] x=some (.ok o)∧GH (Lg c)=.ok l)∨(8<c∧∃a b,uD 100 [] x=some (.error (a,b,4))∧GH (Lg c)=.error (a,b,4))):=by
 have h:=yL F G;unfold WV at h
 split at h
 · cases h
 · rename_i x J
   simp only[Bool.and_eq_true,decide_eq_true_eq] at h;refine⟨x,J,h.1.1,h.1.2,?_⟩;have h:=h.2
   split at h
   · rename_i o l d D
     exact .inl ⟨dT h,o,l,d,D⟩
   · rename_i e K d D
     obtain⟨a,b,k⟩:=e;obtain⟨a2,b2,k2⟩:=K;simp only[Bool.and_eq_true,decide_eq_true_eq,beq_iff_eq] at h;obtain⟨L,rfl,rfl,rfl,rfl⟩:=h;exact .inr ⟨L,a,b,d,D⟩
   · cases h
end Go.Proofs.YtplnpgpagkpnmaaGreatDoor
namespace Go.SP
variable {co ln:Int}{n:Nat}{src:lU}
theorem Wn{t:AB}{l:Fo}{x:N}(h:FJ n t l=some x):∃m,n=m+1∧((t.k=2∧x=⟨1,t.ln,t.co,t.tx,t.nm,.nil⟩)∨(t.k=5∧RJ t=true∧x=⟨5,t.ln,t.co,t.tx,0,.nil⟩) ∨
   (t.k=0∧∃g F a D b bk y z,l=.cons g F (.cons a D (.cons b bk .nil))∧g.k=5∧g.tx=Zj∧FJ m a D=some y∧FJ m b bk=some z∧x=⟨13,t.ln,t.co,t.tx,0,y.cons z.one⟩) ∨
   (t.k=0∧∃g F a D b bk c J y z,l=.cons g F (.cons a D (.cons b bk (.cons c J .nil)))∧g.k=5∧g.tx=YH∧RJ a=true∧FJ m b bk=some y∧FJ m c J=some z∧x=⟨9,t.ln,t.co,a.tx,0,y.cons z.one⟩)):=by
 cases n with
 |zero=>cases h
 |succ m =>
   refine⟨m,C,?_⟩;unfold FJ at h
   split at h
   · rename_i G;cases h;exact .inl ⟨eq_of_beq G,C⟩
   · split at h
     · rename_i G
       split at h
       · rename_i O;cases h;exact .inr (.inl ⟨eq_of_beq G,O,C⟩)
       · cases h
     · split at h
       · rename_i G
         split at h
         · rename_i g F a D b bk r
           split at h
           · rename_i d
             simp only[Bool.and_eq_true,beq_iff_eq] at d
             split at h
             · split at h
               · rename_i y z K L
                 cases h
                 exact .inr (.inr (.inl ⟨eq_of_beq G,g,F,a,D,b,bk,y,z,C,d.1,d.2,K,L,C⟩))
               · cases h
             · cases h
           · split at h
             · rename_i d
               simp only[Bool.and_eq_true,beq_iff_eq] at d
               split at h
               · rename_i c J
                 split at h
                 · rename_i y z K L
                   cases h
                   exact .inr (.inr (.inr ⟨eq_of_beq G,g,F,a,D,b,bk,c,J,y,z,C,d.1.1,d.1.2,d.2,K,L,C⟩))
                 · cases h
               · cases h
             · cases h
         · cases h
       · cases h
theorem VJ{t:AB}{l:Fo}{x:N}(h:cM n t l=some x):t.k=0∧((∃g F a D b bk y,l=.cons g F (.cons a D (.cons b bk .nil))∧g.k=5∧g.tx=fK∧RJ a=true∧FJ n b bk=some y∧x=⟨44,t.ln,t.co,a.tx,0,y.one⟩) ∨
   (∃g F a D y,l=.cons g F (.cons a D .nil)∧g.k=5∧g.tx=rDo∧FJ n a D=some y∧x=⟨46,t.ln,t.co,[],0,y.one⟩)):=by
 unfold cM at h
 split at h
 · rename_i g F a D r
   split at h
   · rename_i d
     simp only[Bool.and_eq_true,beq_iff_eq] at d
     split at h
     · rename_i b bk
       obtain⟨y,G,J⟩:=Option.map_eq_some_iff.1 h;exact⟨d.1.1.1,.inl ⟨g,F,a,D,b,bk,y,C,d.1.1.2,d.1.2,d.2,G,J.symm⟩⟩
     · cases h
   · split at h
     · rename_i d
       simp only[Bool.and_eq_true,beq_iff_eq] at d
       split at h
       · obtain⟨y,G,J⟩:=Option.map_eq_some_iff.1 h
         exact⟨d.1.1,.inr ⟨g,F,a,D,y,C,d.1.2,d.2,G,J.symm⟩⟩
       · cases h
     · cases h
 · cases h
theorem UO{t:AB}{k r:Fo}{x:Nd}(h:M9 n (.cons t k r)=some x):∃y z,cM n t k=some y∧M9 n r=some z∧x=y.cons z:=by
 unfold M9 at h
 split at h
 · rename_i y z d D
   cases h
   exact⟨y,z,d,D,C⟩
 · cases h
theorem SG{x:Nd}(h:P5 src=some x):∃l d,Ci src.length 0 src=some l∧DB (l.length+1) 0 l=some (d,[],false)∧IC 0 l=0∧M9 100 d=some x:=by
 unfold P5 at h
 split at h
 · cases h
 · rename_i l F
   split at h
   · rename_i d D
     split at h
     · rename_i hw
       exact⟨l,d,F,D,eq_of_beq hw,h⟩
     · cases h
   · cases h
theorem Qv{e:Cn}{op:Int}{tx:lU}{k:Nd}{r:Except Er T1}(h:Gf n e op ln co tx k=some r):∃m,n=m+1∧((op=1∧r=Dk ln co (.con [105,110,116] .nil))∨(op=5∧∃t,Bo e tx=some t∧r=Dk ln co t) ∨
   ∃d D F G W k1 J K c2 L Y k2,k=.cons d D F G W k1 (.cons J K c2 L Y k2 .nil)∧((op=13∧((∃er,Gf m e d D F G k1=some (.error er)∧r=.error er)∨∃t,Gf m e d D F G k1=some (.ok t)∧((∃er,Gf m e J K c2 L k2=some (.error er)∧r=.error er)∨∃u,Gf m e J K c2 L k2=some (.ok u)∧r=Dk ln co (.con [116,117,112,108,101] (t.cons u.one))))) ∨
     (op=9∧((∃er,Gf m e d D F G k1=some (.error er)∧r=.error er)∨∃t,Gf m e d D F G k1=some (.ok t)∧((∃er,Gf m ((tx,t)::e) J K c2 L k2=some (.error er)∧r=.error er)∨∃u,Gf m ((tx,t)::e) J K c2 L k2=some (.ok u)∧r=Dk ln co u))))):=by
 cases n with
 |zero=>cases h
 |succ m =>
   refine⟨m,C,?_⟩;unfold Gf at h
   split at h
   · rename_i U;cases h;exact .inl ⟨eq_of_beq U,C⟩
   · split at h
     · rename_i U
       obtain⟨t,O,Q⟩:=Option.map_eq_some_iff.1 h;exact .inr (.inl ⟨eq_of_beq U,t,O,Q.symm⟩)
     · split at h
       · rename_i d D F G W k1 J K c2 L Y k2
         refine .inr (.inr ⟨d,D,F,G,W,k1,J,K,c2,L,Y,k2,C,?_⟩)
         split at h
         · rename_i U
           refine .inl ⟨eq_of_beq U,?_⟩
           cases O:Gf m e d D F G k1 with
           |none=>rw[O] at h;cases h
           |some Z =>
             cases Z with
             |error er=>rw[O] at h;cases h;exact .inl ⟨er,C,C⟩
             |ok t =>
               rw[O] at h;dsimp only at h;refine .inr ⟨t,C,?_⟩
               cases Q:Gf m e J K c2 L k2 with
               |none=>rw[Q] at h;cases h
               |some r2 =>
                 cases r2 with
                 |error er=>rw[Q] at h;cases h;exact .inl ⟨er,C,C⟩
                 |ok u=>rw[Q] at h;cases h;exact .inr ⟨u,C,C⟩
         · split at h
           · rename_i U
             simp only[Bool.and_eq_true,beq_iff_eq] at U;refine .inr ⟨U.1,?_⟩
             cases O:Gf m e d D F G k1 with
             |none=>rw[O] at h;cases h
             |some Z =>
               cases Z with
               |error er=>rw[O] at h;cases h;exact .inl ⟨er,C,C⟩
               |ok t =>
                 rw[O] at h;dsimp only at h;refine .inr ⟨t,C,?_⟩
                 cases Q:Gf m ((tx,t)::e) J K c2 L k2 with
                 |none=>rw[Q] at h;cases h
                 |some r2 =>
                   cases r2 with
                   |error er=>rw[Q] at h;cases h;exact .inl ⟨er,C,C⟩
                   |ok u=>rw[Q] at h;cases h;exact .inr ⟨u,C,C⟩
           · cases h
       · cases h
def Nu:Ty→Bool
 |.nil=>true
 |.var _ _=>false
 |.con _ k r=>Nu k&&Nu r
def Pb:T1→Bool
 |.var _=>false
 |.con _ k=>Nu k
theorem RL{t:T1}{r:Ty}(h:Pb t=true)(d:Nu r=true):Nu (t.cons r)=true:=by
 cases t with
 |var=>cases h
 |con tx k=>show (Nu k&&Nu r)=true;rw[show Nu k=true from h,d];rfl
theorem tE{t:T1}(h:Pb t=true):Nu t.one=true:=RL h C
theorem QG:∀(k:Ty)(n:Nat),Pu k n≤max n 1001
 |.nil,n=>by show n≤_;omega
 |.var _ r,n=>by
   unfold Pu
   split
   · have:=QG r (n+1);omega
   · omega
 |.con _ k r,n=>by
   unfold Pu
   split
   · have d:=QG k (n+1)
     have h:=QG r (Pu k (n+1));omega
   · omega
theorem mY{k:Ty}(h:1000<n):Pu k n=n:=by
 cases k with
 |nil=>rfl
 |var m r=>unfold Pu;rw[if_neg (by omega)]
 |con tx k r=>unfold Pu;rw[if_neg (by omega)]
theorem H5{t u:T1}(h:Dk ln co t=.ok u):u=t∧HR t≤1000:=by
 unfold Dk at h
 split at h
 · cases h
 · cases h;exact⟨C,oM⟩
theorem I7{t:T1}{e:Er}(h:Dk ln co t=.error e):e=(ln,co,4)∧1000<HR t:=by
 unfold Dk at h
 split at h
 · cases h;exact⟨C,by assumption⟩
 · cases h
def IX(e:Cn):Prop:=∀x∈e,Pb x.2=true∧HR x.2≤1000∧x.2.bnd
theorem IX.cons{e:Cn}{x:lU}{t:T1}(h:IX e)(D:Pb t=true)(F:HR t≤1000)(G:t.bnd):IX ((x,t)::e):=λy d=>by
 rcases List.mem_cons.1 d with rfl|d
 · exact⟨D,F,G⟩
 · exact h y d
theorem JZ:∀{e:Cn}{tx:lU}{t:T1},Bo e tx=some t→∃i,e[i]?=some (tx,t)∧∀(j:Nat)(y:lU×T1),j<i→e[j]?=some y→(y.1==tx)=false
 | [],_,_,h=>by cases h
 |(x,u)::e,tx,t,h=>by
   unfold Bo at h
   split at h
   · rename_i d
     cases h
     obtain rfl:=eq_of_beq d;exact⟨0,C,λj y D=>absurd D (Nat.not_lt_zero _)⟩
   · rename_i d
     obtain⟨i,G,J⟩:=JZ h;refine⟨i+1,G,λj y D F=>?_⟩
     cases j with
     |zero=>cases F;simpa using d
     |succ j=>exact J j y oM F
theorem Xk:(T1.con [105,110,116] .nil).bnd:=⟨⟨Nat.zero_le _,dC⟩,tQ⟩
theorem oY{t u:T1}(d:t.bnd)(hu:u.bnd):(T1.con [116,117,112,108,101] (t.cons u.one)).bnd:=by
 refine⟨⟨?_,by show ([116,117,112,108,101]:lU).length≤1000000;decide⟩,T1.bnd_cons.2 ⟨d,T1.bnd_cons.2 ⟨hu,tQ⟩⟩⟩;show (t.cons u.one).len≤200000;rw[T1.len_cons,T1.one,T1.len_cons];show 0+1+1≤200000;decide
theorem Fg:∀(n:Nat){e:Cn}{op ln co:Int}{tx:lU}{k:Nd}{t:T1},IX e→Gf n e op ln co tx k=some (.ok t)→Pb t=true∧HR t≤1000∧t.bnd
 |n,e,op,ln,co,tx,k,t,he,h=>by
   obtain⟨m,rfl,F⟩:=Qv h;rcases F with ⟨_,d⟩|⟨_,u,hu,d⟩|⟨L,O,Q,U,W,k1,Y,Z,c2,x2,n2,k2,rfl,⟨_,F⟩|⟨_,F⟩⟩
   · obtain⟨rfl,D⟩:=H5 d.symm
     exact⟨C,D,Xk⟩
   · obtain⟨rfl,D⟩:=H5 d.symm
     obtain⟨i,K,_⟩:=JZ hu;exact he _ (List.mem_of_getElem? K)
   · rcases F with ⟨er,_,d⟩|⟨t1,J,⟨er,_,d⟩|⟨u,G,d⟩⟩
     · cases d
     · cases d
     · obtain⟨rfl,D⟩:=H5 d.symm
       exact⟨RL (Fg m he J).1 (tE (Fg m he G).1),D,oY (Fg m he J).2.2 (Fg m he G).2.2⟩
   · rcases F with ⟨er,_,d⟩|⟨t1,J,⟨er,_,d⟩|⟨u,G,d⟩⟩
     · cases d
     · cases d
     · obtain⟨rfl,D⟩:=H5 d.symm
       obtain⟨g1,g2,g3⟩:=Fg m he J;exact⟨(Fg m (he.cons g1 g2 g3) G).1,D,(Fg m (he.cons g1 g2 g3) G).2.2⟩
end Go.SP
namespace Go.SP
open Go.SW Go.RowKit
def IJ{α:Type}(g:α→List Value)(w:World)(f:Fq)(l:List α)(a:Option Addr)(c:Nat):Prop:=l.length≤c∧(l=[]∨∃b off,a=some ⟨b,off,none⟩∧Cs w f b off (l.flatMap g))
section
variable{α:Type}{g:α→List Value}
variable {X:Cx}{f:Fq}{Fs:List (World→Fq→Prop)}{B:List FB}{H:List HB}{i k:Nat}{a:Option Addr}{T:TypeId}{w:World}
theorem IJ.mono{l:List α}{c:Nat}:Ea (λw f=>IJ g w f l a c):=λ_ _ _ _ h d=>⟨h.1,h.2.imp id λ⟨b,off,D,F⟩=>⟨b,off,D,F.mono d⟩⟩
theorem IJ.get{l:List α}{c:Nat}{x:α}(k:Nat)(D:∀x,(g x).length=k)(h:IJ g w f l a c)(d:l[i]?=some x):∃b off,a=some ⟨b,off,none⟩∧Cs w f b (off+i*k) (g x):=by
 rcases h.2 with h|⟨b,off,F,G⟩
 · subst h;cases d
 · exact⟨b,off,F,Cs.flat g k D l off i _ G d⟩
theorem cP{R:List RB}{c:Nat}{l:List α}(D:AP X w f H (⟨T,k,a,c,l.length,l.flatMap g⟩::R) B Fs):∃f',AP X w f' H R B Fs∧IJ g w f' l a c:=by
 have J:=D.row _ (.head _);rcases J.2 with ⟨_,_,hz⟩|⟨b,q,G,K,F,_,L,O⟩
 · simp only at hz
   exact⟨f,D.less (List.Sublist.refl _) (List.sublist_cons_self _ _) (λ_ h=>h) (λ_ h=>h),oM,.inl (by cases l with|nil=>rfl|cons _ _=>simp at hz)⟩
 · simp only at G
   subst G;obtain⟨f',d⟩:=D.done (i:=0) C C;refine⟨f',d.less (List.Sublist.refl _) (List.Sublist.refl _) (λ_ h=>.tail _ h) (λ_ h=>h),F,.inr ⟨b,0,C,d.fro _ (.head _)⟩⟩
theorem IJ.nil(w:World)(f:Fq)(a:Option Addr)(c:Nat):IJ g w f [] a c:=⟨Nat.zero_le _,.inl C⟩
end
def Y3(t:AB):List Value:=[.int .i64 t.k,.int .i64 t.ln,.int .i64 t.co,.int .i64 t.nm,S t.tx]
def HW(w:World)(f:Fq):Fo→List Value→Prop
 |.nil,xs=>xs=[]
 |.cons t k r,xs=>∃a c xs',xs=iT t a k.len c++xs'∧Cv w f k a c∧HW w f r xs'
variable {X:Cx}{f f':Fq}{Fs:List (World→Fq→Prop)}{B:List FB}{H:List HB}{xs ys:List Value}{b m n:Nat}{a:Option Addr}{e:TypeId}{w w':World}
theorem HW.mono'(d:Hi w f w' f'):∀(k:Fo)(xs:List Value),HW w f k xs→HW w' f' k xs
 |.nil,_,h=>h
 |.cons _ _ r,_,⟨a,c,xs',D,F,G⟩=>⟨a,c,xs',D,Cv.mono _ _ _ _ F d,HW.mono' d r xs' G⟩
theorem HW.mono{k:Fo}:Ea (λw f=>HW w f k xs):=λ_ _ _ _ h d=>HW.mono' d k xs h
theorem HW.app{y:Fo}(d:HW w f y ys):∀{x:Fo}{xs:List Value},HW w f x xs→HW w f (x.app y) (xs++ys)
 |.nil,xs,h=>by have h:xs=[]:=h;subst h;exact d
 |.cons _ _ r,_,⟨a,c,xs',D,F,G⟩=>⟨a,c,xs'++ys,by rw[D,List.append_assoc],F,HW.app d G⟩
theorem HW.one{t:AB}{k:Fo}{c:Nat}(h:Cv w f k a c):HW w f (.cons t k .nil) (iT t a k.len c):=⟨a,c,[],by simp,h,C⟩
theorem HW.len:∀{k:Fo}{xs:List Value},HW w f k xs→xs.length=k.len*6
 |.nil,xs,h=>by have h:xs=[]:=h;subst h;rfl
 |.cons _ _ r,_,⟨a,c,xs',d,F,D⟩=>by subst d;have:=HW.len D;simp[Fo.len,iT,this];omega
theorem HW.toG:∀{k:Fo}{xs:List Value}{off:Nat},HW w f k xs→Cs w f b off xs→Zf w f k b off
 |.nil,_,_,_,_=>trivial
 |.cons _ k r,_,off,⟨a,c,xs',h,D,F⟩,d=>by
   subst h;exact⟨⟨a,c,Cs.le d,D⟩,HW.toG F (Cs.drop d)⟩
theorem HW.toF{c:Nat}{k:Fo}(h:HW w f k xs)(d:Cs w f b 0 xs)(D:k.len≤c):Cv w f k (some ⟨b,0,none⟩) c:=⟨D,.inr ⟨b,0,C,HW.toG h d⟩⟩
theorem ZB{R:List RB}{c:Nat}{k:Fo}(D:AP X w f H (⟨e,6,a,c,m,xs⟩::R) B Fs)(G:HW w f k xs):∃f',AP X w f' H R B Fs∧Cv w f' k a c:=by
 have J:=D.row _ (.head _);have hlen:=HW.len G;have hm:m=k.len:=by have:=J.1;simp only at this;omega
 rcases J.2 with ⟨_,_,h⟩|⟨b,l,K,_,F,_⟩
 · simp only at h
   have L:k=.nil:=by
     cases k with
     |nil=>rfl
     |cons _ _ _=>simp only[Fo.len] at hm;omega
   exact⟨f,D.less (List.Sublist.refl _) (List.sublist_cons_self _ _) (λ_ h=>h) (λ_ h=>h),by rw[L];exact⟨Nat.zero_le _,.inl C⟩⟩
 · simp only at K F
   subst K;obtain⟨f',d⟩:=(D.more (B':=[]) (F':=[λw f=>HW w f k xs]) (λ_ h=>by cases h) (AA.mem ⟨G,tQ⟩) (Ap.mem ⟨HW.mono,tQ⟩)).done (i:=0) C C;exact⟨f',d.less (List.Sublist.refl _) (List.Sublist.refl _) (λe he=>.tail _ he) (λφ h=>.tail _ h),HW.toF (d.fact (i:=0) C) (d.fro _ (.head _)) oM⟩
def jJ(x:lU×T1)(a:Option Addr)(c:Nat):List Value:=[S x.1,.int .i64 x.2.op,.int .i64 x.2.num,S x.2.tx,.slice a x.2.kids.len c,.slice none 0 0]
def Io(w:World)(f:Fq)(P:List Value):Cn→List Value→Prop
 | [],xs=>xs=P
 |x::e,xs=>∃a c xs',xs=xs'++jJ x a c∧Ae w f x.2.kids a c∧Io w f P e xs'
theorem Io.mono'{P:List Value}(d:Hi w f w' f'):∀(e:Cn)(xs:List Value),Io w f P e xs→Io w' f' P e xs
 | [],_,h=>h
 |_::e,_,⟨a,c,xs',D,F,G⟩=>⟨a,c,xs',D,Ae.mono _ _ _ _ F d,Io.mono' d e xs' G⟩
theorem Io.len{P:List Value}(d:P.length=n*6):∀{e:Cn}{xs:List Value},Io w f P e xs→xs.length=(n+e.length)*6
 | [],xs,h=>by have h:xs=P:=h;subst h;simpa using d
 |_::e,_,⟨a,c,xs',D,G,F⟩=>by subst D;have:=Io.len d F;rw[List.length_append,this];simp only[jJ,List.length_cons,List.length_nil];omega
theorem Io.one'{P:List Value}(D:∀v∈P,v.oneCell'=true):∀{e:Cn}{xs:List Value},Io w f P e xs→∀v∈xs,v.oneCell'=true
 | [],xs,h,v,d=>by have h:xs=P:=h;subst h;exact D v d
 |_::e,_,⟨a,c,xs',F,J,G⟩,v,d=>by
   subst F;rcases List.mem_append.1 d with d|d
   · exact Io.one' D G v d
   · simp only[jJ,List.mem_cons,List.not_mem_nil,or_false] at d
     rcases d with rfl|rfl|rfl|rfl|rfl|rfl <;> rfl
def Jf(w:World)(f:Fq)(P:List Value)(n:Nat)(e:Cn)(a:Option Addr)(c:Nat):Prop:=n+e.length≤c∧∃b off xs,a=some ⟨b,off,none⟩∧Cs w f b off xs∧Io w f P e xs
theorem Jf.mono{P:List Value}{e:Cn}{c:Nat}:Ea (λw f=>Jf w f P n e a c):=λ_ _ _ _ ⟨h,b,off,xs,D,F,G⟩ d=>⟨h,b,off,xs,D,F.mono d,Io.mono' d e xs G⟩
theorem Io.get{P:List Value}(J:P.length=n*6):∀{e:Cn}{xs:List Value}{i:Nat}{x:lU×T1},Io w f P e xs→e[i]?=some x→∃a c,Ae w f x.2.kids a c∧∀j v,(jJ x a c)[j]?=some v→xs[(n+(e.length-1-i))*6+j]?=some v
 | [],_,_,_,_,h=>by cases h
 |y::e,_,0,x,⟨a,c,xs',d,K,D⟩,h=>by
   cases h
   subst d;refine⟨a,c,K,λj v F=>?_⟩;have L:=Io.len J D;rw[show (n+((y::e).length-1-0))*6+j=xs'.length+j by rw[L];simp];rw[List.getElem?_append_right (by omega),Nat.add_sub_cancel_left];exact F
 |y::e,_,i+1,x,⟨a,c,xs',d,K,D⟩,h=>by
   subst d;obtain⟨a',c',k1,k2⟩:=Io.get J D (i:=i) (x:=x) h;refine⟨a',c',k1,λj v F=>?_⟩;have:=k2 j v F;have G:=(List.getElem?_eq_some_iff.1 this).1;rw[show (y::e).length-1-(i+1)=e.length-1-i by simp only[List.length_cons];omega,List.getElem?_append_left G];exact this
def YE(t:T1)(n:Nat):Nat:=Pu t.kids (n+1)
theorem OP{t:T1}(h:Pb t=true):HR t=YE t 0:=by
 cases t with
 |var=>cases h
 |con tx k=>rfl
def FE(t:T1):Option T1:=if YE t 0≤1000 then some t else none
variable {n:Nat}
theorem gX{t:T1}{r:Ty}(h:n≤1000)(d:Pb t=true):Pu (t.cons r) n=Pu r (YE t n):=by
 cases t with
 |var=>cases d
 |con tx k=>show Pu (.con tx k r) n=_;rw[Pu,if_pos h];rfl
theorem vP(t:T1)(h:n≤1000):YE t n≤1001:=by have:=QG t.kids (n+1);unfold YE;omega
theorem Ei{t:T1}{r:Ty}(h:Nu (t.cons r)=true):Pb t=true∧Nu r=true:=by
 cases t with
 |var n=>cases h
 |con tx k=>exact Bool.and_eq_true_iff.1 (show (Nu k&&Nu r)=true from h)
theorem Ni{t:T1}(h:Pb t=true):∃tx k,t=.con tx k∧Nu k=true:=by
 cases t with
 |var=>cases h
 |con tx k=>exact⟨tx,k,C,h⟩
section
variable(P:Program)(fid:FuncId)
abbrev SzF(m:Nat):Prop:=∀(w:World)(f:Fq)(_:Vl w f)(sp:Nat)(t:T1)(a:Option Addr)(c n:Nat),t.kids.size<m→Pb t=true→t.bnd→n≤1000→Ae w f t.kids a c →
 AO P fid #[.pointer (some ⟨sp,0,none⟩),tV t a c,.int .i64 n] w (AF (α:=Unit) (λ_=>.int .i64 (YE t n:Nat)) (λ_=>True) (λ_=>[]) w f)
abbrev FlF(m:Nat):Prop:=∀(w:World)(f:Fq)(_:Vl w f)(sp:Nat)(t:T1)(a:Option Addr)(c:Nat),t.kids.size<m→Pb t=true→t.bnd→Ae w f t.kids a c →
 AO P fid #[.pointer (some ⟨sp,0,none⟩),tV t a c] w (AF (α:=Option Addr×Nat) (λx=>tV t x.1 x.2) (λ_=>True) (λx=>[λw f=>Ae w f t.kids x.1 x.2]) w f)
abbrev VaF(m:Nat):Prop:=∀(w:World)(f:Fq)(_:Vl w f)(t:T1)(a:Option Addr)(c:Nat),t.kids.size<m→Pb t=true→t.bnd→Ae w f t.kids a c →
 AO P fid #[tV t a c,.slice none 0 0] w (AF (α:=Unit) (λ_=>.slice none 0 0) (λ_=>True) (λ_=>[]) w f)
abbrev SwF(m:Nat):Prop:=∀(w:World)(f:Fq)(_:Vl w f)(l:List Int)(d:Option Addr)(lc:Nat)(y:Ty)(h:Option Addr)(D:Nat),l.length≤1000000→y.len≤200000→B7 w f l d lc→Ae w f y h D→∀(t:T1)(a:Option Addr)(c:Nat),t.kids.size<m→t.bnd→Ae w f t.kids a c →
 AO P fid #[tV t a c,.slice d l.length lc,.slice h y.len D] w (AF (α:=T1×Option Addr×Nat) (λx=>tV x.1 x.2.1 x.2.2) (λx=>Pb t=true→x.1=t) (λx=>[λw f=>Ae w f x.1.kids x.2.1 x.2.2]) w f)
abbrev VluF(m:Nat):Prop:=∀(w:World)(f:Fq)(_:Vl w f)(op ln co nm:Int)(tx:lU)(k:Nd)(a:Option Addr)(c:Nat),k.size<m→k.size≤1000000→AJ w f k a c →
 AO P fid #[nV op ln co tx nm k a c] w (AF (α:=Bool) (λx=>.bool x) (λ_=>True) (λ_=>[]) w f)
end
end Go.SP
namespace Go.SW
open Go.RowKit
variable {Q:AQ}{σ:AW}{X:Cx}{Fs:List (World→Fq→Prop)}{ds:List Deferred}{B:List FB}{fs:List Fr}{H:List HB}{n:Nat}
theorem zD{P:Program}{R:List RB}{c:Code}
   (h:Aw P n (lpq P n (λ_:Unit=>0) (λ_=>True) (λ_=>σ) (λ_=>X) (λ_=>H) (λ_=>R) (λ_=>B) (λ_=>Fs) ds 0 (KT P n Q fs)) ds X R B Fs (.code c) [] σ H):Aw P n Q ds X R B Fs (.code (.loop c)) fs σ H :=
 D6 (λ_:Unit=>0) (λ_=>True) (λ_=>σ) (λ_=>X) (λ_=>H) (λ_=>R) (λ_=>B) (λ_=>Fs) () tQ (λ_ _ h=>h) (λ_ _ h=>h) (λ_ _=>h)
end Go.SW
namespace Go.SP
def rB(c:UInt8):Bool:=IM c||(Eu c||I3 c)
theorem QU:∀s:lU,(Gh s).length≤s.length
 | []=>Nat.le_refl _
 |c::s=>by
   unfold Gh
   split
   · exact Nat.zero_le _
   · have:=QU s;simp only[List.length_cons];omega
theorem N0:∀s:lU,s.take (Gh s).length=Gh s
 | []=>rfl
 |c::s=>by
   unfold Gh
   split
   · rfl
   · simp only[List.length_cons,List.take_succ_cons,N0 s]
theorem bH:∀(s:lU)(j:Nat),j<(Gh s).length→∃c,s[j]?=some c∧IM c=false
 | [],_,h=>by cases h
 |c::s,j,h=>by
   unfold Gh at h
   split at h
   · cases h
   · rename_i D
     cases j with
     |zero=>exact⟨c,C,by simpa using D⟩
     |succ j=>simp only[List.length_cons] at h;exact bH s j oM
theorem WU:∀s:lU,(Gh s).length=s.length∨∃c,s[(Gh s).length]?=some c∧IM c=true
 | []=>.inl C
 |c::s=>by
   unfold Gh
   split
   · rename_i D;exact .inr ⟨c,C,D⟩
   · rcases WU s with h|⟨d,F,G⟩
     · exact .inl (by simp only[List.length_cons];omega)
     · exact .inr ⟨d,by simpa using F,G⟩
theorem WN{w:lU}(h:rC w=true):∀c∈w,(Eu c||I3 c)=true:=λc D=>by
 unfold rC at h;simp only[Bool.or_eq_true,Bool.and_eq_true] at h;rcases h with h|⟨h,_⟩
 · have:w=[49]:=by simpa using h
   subst this;have:c=49:=by simpa using D
   subst this;decide
 · cases w with
   |nil=>cases D
   |cons d t =>
     simp only[Bool.and_eq_true,List.all_eq_true] at h;rcases List.mem_cons.1 D with rfl|D
     · rw[h.1];rfl
     · exact h.2 c D
theorem H9:∀(n i:Nat)(s:lU)(l:List AB),Ci n i s=some l→∀c∈s,rB c=true
 |0,i,s,l,h,c,D=>by
   unfold Ci at h
   cases s with
   |nil=>cases D
   |cons _ _=>simp at h
 |n+1,i,[],l,h,c,D=>by cases D
 |n+1,i,d::s,l,h,c,D=>by
   unfold Ci at h
   split at h
   · rename_i hd
     rcases List.mem_cons.1 D with rfl|D
     · have:c=32:=by simpa using hd
       subst this;decide
     · exact H9 n _ s l h c D
   · split at h
     · rename_i hd
       obtain⟨F,G,_⟩:=Option.map_eq_some_iff.1 h;rcases List.mem_cons.1 D with rfl|D
       · have:c=40:=by simpa using hd
         subst this;decide
       · exact H9 n _ s F G c D
     · split at h
       · rename_i hd
         obtain⟨F,G,_⟩:=Option.map_eq_some_iff.1 h;rcases List.mem_cons.1 D with rfl|D
         · have:c=41:=by simpa using hd
           subst this;decide
         · exact H9 n _ s F G c D
       · split at h
         · rename_i hw
           obtain⟨F,G,_⟩:=Option.map_eq_some_iff.1 h;have K:=H9 n _ _ F G;have J:=List.take_append_drop (Gh (d::s)).length (d::s);rw[N0] at J;rw[← J] at D;rcases List.mem_append.1 D with D|D
           · unfold rB;rw[WN hw c D];simp
           · exact K c D
         · cases h
section
variable{n i:Nat}{c:UInt8}{s:lU}{l:List AB}
theorem jF(h:Ci n i (c::s)=some l)(D:(c==32)=true):∃m,Ci m (i+1) s=some l:=by
 cases n with
 |zero=>unfold Ci at h;simp at h
 |succ n=>unfold Ci at h;rw[if_pos D] at h;exact⟨n,h⟩
theorem WC(h:Ci n i (c::s)=some l)(F:(c==40)=true∨(c==41)=true):∃m D,Ci m (i+1) s=some D∧l=⟨(c.toNat:Int)-40,1,(i:Int)+1,0,[]⟩::D:=by
 cases n with
 |zero=>unfold Ci at h;simp at h
 |succ n =>
   unfold Ci at h;rcases F with F|F
   · obtain rfl:=eq_of_beq F
     obtain⟨D,G,J⟩:=Option.map_eq_some_iff.1 (show (Ci n (i+1) s).map _=some l from h);exact⟨n,D,G,J.symm⟩
   · obtain rfl:=eq_of_beq F
     obtain⟨D,G,J⟩:=Option.map_eq_some_iff.1 (show (Ci n (i+1) s).map _=some l from h);exact⟨n,D,G,J.symm⟩
theorem jO(h:Ci n i (c::s)=some l)(D:IM c=false):∃m F,rC (Gh (c::s))=true∧Ci m (i+(Gh (c::s)).length) ((c::s).drop (Gh (c::s)).length)=some F∧l=Uo (Gh (c::s)) i::F:=by
 unfold IM at D;simp only[Bool.or_eq_false_iff] at D
 cases n with
 |zero=>unfold Ci at h;simp at h
 |succ n =>
   unfold Ci at h;rw[if_neg (by rw[D.1.1];decide),if_neg (by rw[D.1.2];decide),if_neg (by rw[D.2];decide)] at h
   split at h
   · rename_i hw
     obtain⟨F,G,J⟩:=Option.map_eq_some_iff.1 h;exact⟨n,F,hw,G,J.symm⟩
   · cases h
theorem cH(h:Ci n i []=some l):l=[]:=by
 cases n with
 |zero=>unfold Ci at h;simpa using h.symm
 |succ n=>unfold Ci at h;cases h;rfl
end
section
variable{n d:Nat}{t:AB}{l l2:List AB}{x:Fo}{b:Bool}
theorem TZ(h:DB n d []=some (x,l2,b)):x=.nil∧l2=[]∧b=false:=by
 cases n with
 |zero=>cases h
 |succ n=>unfold DB at h;cases h;exact⟨C,C,C⟩
theorem NX(h:DB n d (t::l)=some (x,l2,b))(D:(t.k==1)=true):d≠0∧x=.nil∧l2=l∧b=true:=by
 cases n with
 |zero=>cases h
 |succ n =>
   unfold DB at h;rw[if_pos D] at h
   split at h
   · cases h
   · rename_i hd
     cases h
     exact⟨by simpa using hd,C,C,C⟩
theorem PJ(h:DB n d (t::l)=some (x,l2,b))(G:(t.k==0)=true):d≠200∧∃m D F y,n=m+1∧DB m (d+1) l=some (D,F,true)∧DB m d F=some (y,l2,b)∧x=.cons t D y:=by
 cases n with
 |zero=>cases h
 |succ n =>
   have J:t.k=0:=eq_of_beq G;unfold DB at h;rw[if_neg (by rw[J];decide),if_pos G] at h
   split at h
   · cases h
   · rename_i hd
     split at h
     · rename_i D F K
       split at h
       · rename_i y O b3 L
         cases h
         exact⟨by simpa using hd,n,D,F,y,C,K,L,C⟩
       · cases h
     · cases h
theorem P8(h:DB n d (t::l)=some (x,l2,b))(D:(t.k==0)=false)(F:(t.k==1)=false):∃m y,n=m+1∧DB m d l=some (y,l2,b)∧x=.cons t .nil y:=by
 cases n with
 |zero=>cases h
 |succ n =>
   unfold DB at h;rw[if_neg (by rw[F];decide),if_neg (by rw[D];decide)] at h
   split at h
   · rename_i y J b3 G
     cases h
     exact⟨n,y,C,G,C⟩
   · cases h
end
end Go.SP
namespace Go.SP
open Go.SW Go.RowKit
def Je(n:Nat):Fo→Option Nd
 |.nil=>some .nil
 |.cons t k r=>match FJ n t k,Je n r with
   |some x,some y=>some (x.cons y)
   |_,_=>none
variable {co ln nm:Int}{i m n sb:Nat}
theorem VL{t:AB}{k r:Fo}{x:Nd}(h:Je n (.cons t k r)=some x):∃y z,FJ n t k=some y∧Je n r=some z∧x=y.cons z:=by
 unfold Je at h
 split at h
 · rename_i y z d D;cases h;exact⟨y,z,d,D,C⟩
 · cases h
theorem LL{t:AB}{k:Fo}{x:N}(h:FJ n t k=some x):Je n (.cons t k .nil)=some x.one:=by unfold Je;rw[h];rfl
theorem Ql{t u:AB}{k l:Fo}{x y:N}(h:FJ n t k=some x)(d:FJ n u l=some y):Je n (.cons t k (.cons u l .nil))=some (x.cons y.one):=by unfold Je;rw[h,LL d]
theorem Nd.app_one(x:Nd)(y:N)(z:Nd):(x.app y.one).app z=x.app (y.cons z):=by
 induction x with
 |nil=>rfl
 |cons a b c d e l r _ h=>show Nd.cons .. = Nd.cons ..;rw[h]
theorem Nd.app_nil':∀x:Nd,x.app .nil=x
 |.nil=>rfl
 |.cons _ _ _ _ _ _ r=>by show Nd.cons .. = _;rw[Nd.app_nil' r]
theorem cJ{t:AB}(h:RJ t=true):t.k=5∧Kl.contains t.tx=false∧∃c s,t.tx=c::s∧Eu c=true:=by
 unfold RJ at h;simp only[Bool.and_eq_true,beq_iff_eq,Bool.not_eq_true'] at h;obtain⟨⟨F,G⟩,d⟩:=h
 cases D:t.tx with
 |nil=>rw[D] at d;cases d
 |cons c s=>rw[D] at d;exact⟨F,by rw[← D];exact G,c,s,C,d⟩
section
variable(P:Program)(fid:FuncId)(T:TypeId)
abbrev ExF(m:Nat):Prop:=∀(w:World)(f:Fq)(_:Vl w f)(d:Nat)(_:AE w d [.bool false,.int .i64 0,.int .i64 0] T)(t:AB)(k:Fo)(a:Option Addr)(c:Nat)(x:N),FJ m t k=some x→Cv w f k a c →
 AO P fid #[.pointer (some ⟨d,0,none⟩),fV t a k.len c] w (AF (α:=Option Addr×Nat) (λy=>nV x.op x.ln x.co x.tx x.nm x.kids y.1 y.2) (λ_=>True) (λy=>[λw f=>AJ w f x.kids y.1 y.2]) w f)
abbrev YY(m:Nat):Prop:=∀(w:World)(f:Fq)(_:Vl w f)(d:Nat)(_:AE w d [.bool false,.int .i64 0,.int .i64 0] T)(l:Fo)(a:Option Addr)(c:Nat)(x:Nd),l.len≤100000→Je m l=some x→Cv w f l a c →
 AO P fid #[.pointer (some ⟨d,0,none⟩),.slice a l.len c] w (AF (α:=Option Addr×Nat) (λy=>.slice y.1 x.len y.2) (λ_=>True) (λy=>[λw f=>AJ w f x y.1 y.2]) w f)
end
theorem GO:∀{m d:Nat}{l D:List AB}{x:Fo}{b:Bool},DB m d l=some (x,D,b)→∃j,j≤l.length∧D=l.drop j∧x.len≤j
 |0,_,_,_,_,_,h=>by cases h
 |m+1,d,[],D,x,b,h=>by obtain⟨rfl,rfl,rfl⟩:=TZ h;exact⟨0,Nat.le_refl _,C,Nat.le_refl _⟩
 |m+1,d,t::l,D,x,b,h=>by
   cases G:t.k==1 with
   |true=>obtain⟨_,rfl,rfl,rfl⟩:=NX h G;exact⟨1,Nat.succ_le_succ (Nat.zero_le _),C,Nat.zero_le _⟩
   |false =>
     cases J:t.k==0 with
     |true =>
       obtain⟨_,L,U,W,y,hm,O,F,rfl⟩:=PJ h J
       cases hm
       obtain⟨j,Y,rfl,_⟩:=GO O;obtain⟨i,K,rfl,Q⟩:=GO F;rw[List.length_drop] at K;exact⟨1+(j+i),by simp only[List.length_cons];omega,by rw[List.drop_drop,Nat.add_comm 1,List.drop_succ_cons],by simp only[Fo.len];omega⟩
     |false =>
       obtain⟨L,y,hm,F,rfl⟩:=P8 h J G
       cases hm
       obtain⟨i,K,rfl,Q⟩:=GO F;exact⟨i+1,by simp only[List.length_cons];omega,by rw[List.drop_succ_cons],by simp only[Fo.len];omega⟩
theorem Yp{α:Type}{l r:List α}{t:α}(h:l.drop i=t::r):l[i]?=some t∧l.drop (i+1)=r∧i<l.length:=by
 have D:i<l.length:=by
   rcases Nat.lt_or_ge i l.length with d|d
   · exact d
   · rw[List.drop_eq_nil_of_le d] at h;cases h
 rw[List.drop_eq_getElem_cons D] at h;injection h with d F
 exact⟨by rw[List.getElem?_eq_getElem D,d],F,D⟩
def IW(T:TypeId)(rb:Nat)(d:Option Addr)(n lc:Nat)(i:Nat):World→Fq→Prop:=λw _=>AE w rb [.slice d n lc,.int .i64 i,.bool false,.int .i64 0,.int .i64 0] T
theorem IW.stab{T:TypeId}{rb:Nat}{d:Option Addr}{lc:Nat}:EC (λb=>b=rb) (IW T rb d n lc i):=λ_ _ _ _ h _ D=>(D _ C).trans h
abbrev zK(P:Program)(fid:FuncId)(T:TypeId)(m:Nat):Prop:=∀(w:World)(f:Fq)(_:Vl w f)(rb:Nat)(L:List AB)(h:Option Addr)(lc i d:Nat)(x:Fo)(D:List AB)(b:Bool),L.length≤100000→d≤200→i≤L.length→DB m d (L.drop i)=some (x,D,b)→IW T rb h L.length lc i w f→f rb=0→IJ Y3 w f L h lc →
 AO P fid #[.pointer (some ⟨rb,0,none⟩),.int .i64 d] w (CY (α:=Nat×Option Addr×Nat) (λy=>.tuple #[.slice y.2.1 x.len y.2.2,.bool b]) (λy=>y.1≤L.length∧D=L.drop y.1) (λb=>b=rb) (λy=>IW T rb h L.length lc y.1) (λy=>[λw f=>Cv w f x y.2.1 y.2.2]) w f)
def I9(n:Nat)(e:Cn)(op:Int)(tx:lU)(k:Nd):Option (Except Er T1) :=
 if op==1 then some (.ok (.con [105,110,116] .nil))
 else if op==5 then (Bo e tx).map .ok
 else match k with
   |.cons d h D F _ k1 (.cons G J c2 K _ k2 .nil) =>
     if op==13 then (match Gf n e d h D F k1 with
       |some (.ok t)=>(match Gf n e G J c2 K k2 with
         |some (.ok u)=>some (.ok (.con [116,117,112,108,101] (t.cons u.one)))
         |r=>r)
       |r=>r)
     else if op==9&&tx != [95] then (match Gf n e d h D F k1 with
       |some (.ok t)=>Gf n ((tx,t)::e) G J c2 K k2
       |r=>r)
     else none
   |_=>none
def zQ(ln co:Int):Except Er T1→Except Er T1
 |.ok t=>Dk ln co t
 |.error er=>.error er
theorem gI(n:Nat)(e:Cn)(op ln co:Int)(tx:lU)(k:Nd):Gf (n+1) e op ln co tx k=(I9 n e op tx k).map (zQ ln co):=by
 unfold Gf I9
 by_cases h:(op==1)=true
 · rw[if_pos h,if_pos h];rfl
 · rw[if_neg h,if_neg h]
   by_cases D:(op==5)=true
   · rw[if_pos D,if_pos D]
     cases Bo e tx <;> rfl
   · rw[if_neg D,if_neg D]
     cases k with
     |nil=>rfl
     |cons G J K L W k1 k2 =>
       cases k2 with
       |nil=>rfl
       |cons O Q c2 U Y k2 k3 =>
         cases k3 with
         |cons=>rfl
         |nil =>
           dsimp only
           by_cases d:(op==13)=true
           · rw[if_pos d,if_pos d]
             cases Gf n e G J K L k1 with
             |none=>rfl
             |some r=>cases r with
               |error=>rfl
               |ok t =>
                 dsimp only
                 cases Gf n e O Q c2 U k2 with
                 |none=>rfl
                 |some r=>cases r <;> rfl
           · rw[if_neg d,if_neg d]
             by_cases F:(op==9&&tx != [95])=true
             · rw[if_pos F,if_pos F]
               cases Gf n e G J K L k1 with
               |none=>rfl
               |some r=>cases r with
                 |error=>rfl
                 |ok t =>
                   dsimp only
                   cases Gf n ((tx,t)::e) O Q c2 U k2 with
                   |none=>rfl
                   |some r=>cases r <;> rfl
             · rw[if_neg F,if_neg F];rfl
def EE(T:TypeId)(d sb:Nat)(ev h D:Value)(s:Int×Int×Int):World→Fq→Prop:=λw _=>AE w d [.pointer (some ⟨sb,0,none⟩),ev,h,D,.int .i64 s.1,.int .i64 s.2.1,.int .i64 s.2.2] T
theorem EE.stab{T:TypeId}{d:Nat}{ev D F:Value}{s:Int×Int×Int}:EC (λb=>b=d) (EE T d sb ev D F s):=λ_ _ _ _ h _ G=>(G _ C).trans h
def KY{α:Type}:Except Er α→Int×Int×Int
 |.ok _=>(0,0,0)
 |.error (ln,co,e)=>(e,ln,co)
section
variable(P:Program)(fid:FuncId)(T:TypeId)
abbrev XpF(m:Nat):Prop:=∀(w:World)(f:Fq)(_:Vl w f)(d sb:Nat)(ev h D:Value),EE T d sb ev h D (0,0,0) w f→f d=0→∀(C:List Value)(n:Nat)(e:Cn)(F:Option Addr)(G:Nat),C.length=n*6→(∀v∈C,v.oneCell'=true)→n+e.length+m≤100000→IX e→Jf w f C n e F G →
 ∀(op ln co nm:Int)(tx:lU)(k:Nd)(J:Option Addr)(nc:Nat)(r:Except Er T1),k.size≤1000000→Gf m e op ln co tx k=some r→AJ w f k J nc →
 AO P fid #[.pointer (some ⟨d,0,none⟩),nV op ln co tx nm k J nc,.slice F (n+e.length) G] w (CY (α:=T1×Option Addr×Nat) (λx=>tV x.1 x.2.1 x.2.2) (λx=>∀t,r=.ok t→x.1=t) (λb=>b=d) (λ_=>EE T d sb ev h D (KY r)) (λx=>[λw f=>Ae w f x.1.kids x.2.1 x.2.2]) w f)
abbrev BaF(m:Nat):Prop:=∀(w:World)(f:Fq)(_:Vl w f)(d sb:Nat)(ev h D:Value),EE T d sb ev h D (0,0,0) w f→f d=0→∀(C:List Value)(n:Nat)(e:Cn)(F:Option Addr)(G:Nat),C.length=n*6→(∀v∈C,v.oneCell'=true)→n+e.length+m<100000→IX e→Jf w f C n e F G →
 ∀(op ln co nm:Int)(tx:lU)(k:Nd)(J:Option Addr)(nc:Nat)(r:Except Er T1),k.size≤1000000→I9 m e op tx k=some r→AJ w f k J nc →
 AO P fid #[.pointer (some ⟨d,0,none⟩),nV op ln co tx nm k J nc,.slice F (n+e.length) G] w (CY (α:=T1×Option Addr×Nat) (λx=>tV x.1 x.2.1 x.2.2) (λx=>∀t,r=.ok t→x.1=t) (λb=>b=d) (λ_=>EE T d sb ev h D (KY r)) (λx=>[λw f=>Ae w f x.1.kids x.2.1 x.2.2]) w f)
end
def YU(m:Nat)(e:Cn):Nd→Option (Except Er Ty)
 |.nil=>some (.ok .nil)
 |.cons op ln co tx _ k r=>match Gf m e op ln co tx k with
   |some (.ok t)=>(match YU m e r with
     |some (.ok d)=>some (.ok (t.cons d))
     |w=>w)
   |some (.error er)=>some (.error er)
   |none=>none
variable {r:Nd}
theorem Lw{e:Cn}{op:Int}{tx:lU}{k:Nd}{q:Except Er Ty}(h:YU m e (.cons op ln co tx nm k r)=some q):(∃er,Gf m e op ln co tx k=some (.error er)∧q=.error er)∨∃t F,Gf m e op ln co tx k=some (.ok t)∧YU m e r=some F∧q=F.map (t.cons ·):=by
 unfold YU at h
 split at h
 · rename_i t G
   split at h
   · rename_i J d;cases h;exact .inr ⟨t,_,G,d,C⟩
   · rename_i K
     cases q with
     |error er=>exact .inr ⟨t,_,G,h,C⟩
     |ok J=>exact absurd h (K J)
 · rename_i er D;cases h;exact .inl ⟨er,D,C⟩
 · cases h
theorem OO{e:Cn}{tx:lU}{k:Nd}{r:Except Er T1}(h:I9 m e 13 tx k=some r):∃q,YU m e k=some q∧r=q.map (T1.con [116,117,112,108,101])∧k.len=2:=by
 unfold I9 at h;rw[if_neg (by decide),if_neg (by decide)] at h
 split at h
 · rename_i F G J K Y k1 L O c2 Q Z k2
   rw[if_pos (by decide)] at h;simp only[YU]
   cases d:Gf m e F G J K k1 with
   |none=>rw[d] at h;cases h
   |some U=>cases U with
     |error er=>rw[d] at h;cases h;exact⟨_,C,C,C⟩
     |ok t =>
       rw[d] at h;dsimp only at h
       cases D:Gf m e L O c2 Q k2 with
       |none=>rw[D] at h;cases h
       |some W=>cases W with
         |error er=>rw[D] at h;cases h;exact⟨_,C,C,C⟩
         |ok u=>rw[D] at h;cases h;exact⟨_,C,C,C⟩
 · cases h
theorem NJ{e:Cn}{tx:lU}{k:Nd}{r:Except Er T1}(h:I9 m e 9 tx k=some r):∃d D F G O k1 J K c2 L Q k2,k=.cons d D F G O k1 (.cons J K c2 L Q k2 .nil)∧tx≠[95] ∧
   ((∃er,Gf m e d D F G k1=some (.error er)∧r=.error er)∨∃t,Gf m e d D F G k1=some (.ok t)∧Gf m ((tx,t)::e) J K c2 L k2=some r):=by
 unfold I9 at h;rw[if_neg (by decide),if_neg (by decide)] at h
 split at h
 · rename_i d D F G O k1 J K c2 L Q k2
   rw[if_neg (by decide)] at h
   split at h
   case isFalse=>cases h
   rename_i W;refine⟨d,D,F,G,O,k1,J,K,c2,L,Q,k2,C,by simpa using W,?_⟩
   cases U:Gf m e d D F G k1 with
   |none=>rw[U] at h;cases h
   |some Y=>cases Y with
     |error er=>rw[U] at h;cases h;exact .inl ⟨er,C,C⟩
     |ok t=>rw[U] at h;exact .inr ⟨t,C,h⟩
 · cases h
theorem QS{e:Cn}{op:Int}{tx:lU}{k:Nd}{r:Except Er T1}(h:I9 m e op tx k=some r):(op=1∧r=.ok (.con [105,110,116] .nil))∨(op=5∧∃t,Bo e tx=some t∧r=.ok t)∨op=13∨op=9:=by
 unfold I9 at h
 split at h
 · rename_i d;cases h;exact .inl ⟨eq_of_beq d,C⟩
 · split at h
   · rename_i d
     obtain⟨t,D,F⟩:=Option.map_eq_some_iff.1 h;exact .inr (.inl ⟨eq_of_beq d,t,D,F.symm⟩)
   · split at h
     · split at h
       · rename_i d;exact .inr (.inr (.inl (eq_of_beq d)))
       · split at h
         · rename_i d;simp only[Bool.and_eq_true,beq_iff_eq] at d;exact .inr (.inr (.inr d.1))
         · cases h
     · cases h
end Go.SP
namespace Go.SP
open Go.SW Go.RowKit
variable {co ln:Int}{m:Nat}
theorem Ys{t:T1}(d:Pb t=true)(h:(FE t).isSome=true):KY (Dk ln co t)=(0,0,0):=by
 unfold FE at h
 split at h
 · unfold Dk;rw[if_neg (by rw[OP d];omega)];rfl
 · cases h
theorem bQ{t:T1}(d:Pb t=true)(h:(FE t).isSome=false):KY (Dk ln co t)=(4,ln,co):=by
 unfold FE at h
 split at h
 · cases h
 · unfold Dk;rw[if_pos (by rw[OP d];omega)];rfl
theorem yI{r:Except Er T1}{u x:T1}(h:zQ ln co r=.ok u)(d:∀t,r=.ok t→x=t):x=u:=by
 cases r with
 |error er=>cases h
 |ok t=>obtain⟨rfl,_⟩:=H5 (show Dk ln co t=.ok u from h);exact d _ C
theorem GX:∀(n:Nat){e:Cn}{op ln co:Int}{tx:lU}{k:Nd}{er:Er},Gf n e op ln co tx k=some (.error er)→er.2.2=4
 |n,e,op,ln,co,tx,k,er,h=>by
   obtain⟨m,rfl,F⟩:=Qv h;rcases F with ⟨_,d⟩|⟨_,u,hu,d⟩|⟨K,L,O,Q,U,k1,W,Y,c2,Z,n2,k2,rfl,⟨_,F⟩|⟨_,F⟩⟩
   · rw[(I7 d.symm).1]
   · rw[(I7 d.symm).1]
   · rcases F with ⟨D,G,d⟩|⟨t1,G,⟨D,J,d⟩|⟨u,J,d⟩⟩
     · cases d;exact GX m G
     · cases d;exact GX m J
     · rw[(I7 d.symm).1]
   · rcases F with ⟨D,G,d⟩|⟨t1,G,⟨D,J,d⟩|⟨u,J,d⟩⟩
     · cases d;exact GX m G
     · cases d;exact GX m J
     · rw[(I7 d.symm).1]
theorem ZA{e:Cn}(F:IX e):∀{k:Nd}{d:Ty},YU m e k=some (.ok d)→Nu d=true∧d.bnd∧d.len=k.len
 |.nil,d,h=>by cases h;exact⟨C,tQ,C⟩
 |.cons _ _ _ _ _ _ r,d,h=>by
   rcases Lw h with ⟨er,_,D⟩|⟨t,G,J,K,D⟩
   · cases D
   · cases G with
     |error er=>cases D
     |ok L =>
       cases D
       obtain⟨g1,_,g3⟩:=Fg m F J;obtain⟨a,b,c⟩:=ZA F K;exact⟨RL g1 a,T1.bnd_cons.2 ⟨g3,b⟩,by rw[T1.len_cons,c];rfl⟩
theorem gG{e:Cn}:∀{k:Nd}{er:Er},YU m e k=some (.error er)→er.2.2=4
 |.nil,er,h=>by cases h
 |.cons _ _ _ _ _ _ r,er,h=>by
   rcases Lw h with ⟨D,F,d⟩|⟨t,G,F,J,d⟩
   · cases d;exact GX m F
   · cases G with
     |error D=>cases d;exact gG J
     |ok K=>cases d
theorem TL{e:Cn}{op:Int}{tx:lU}{k:Nd}{t:T1}(D:IX e)(h:I9 m e op tx k=some (.ok t)):Pb t=true∧t.bnd:=by
 rcases QS h with ⟨_,d⟩|⟨_,u,hu,d⟩|rfl|rfl
 · cases d;exact⟨C,Xk⟩
 · cases d
   obtain⟨i,F,_⟩:=JZ hu;have:=D _ (List.mem_of_getElem? F);exact⟨this.1,this.2.2⟩
 · obtain⟨q,G,d,O⟩:=OO h
   cases q with
   |error er=>cases d
   |ok J =>
     cases d
     obtain⟨a,b,c⟩:=ZA D G;exact⟨a,⟨⟨by show J.len≤200000;omega,by show ([116,117,112,108,101]:lU).length≤1000000;decide⟩,b⟩⟩
 · obtain⟨Q,U,W,Y,Z,k1,o2,l2,c2,x2,n2,k2,rfl,_,⟨er,_,d⟩|⟨u,K,L⟩⟩:=NJ h
   · cases d
   · obtain⟨g1,g2,g3⟩:=Fg m D K
     obtain⟨g4,_,g5⟩:=Fg m (D.cons g1 g2 g3) L;exact⟨g4,g5⟩
theorem gZ{e:Cn}{op:Int}{tx:lU}{k:Nd}{er:Er}(_hE:IX e)(h:I9 m e op tx k=some (.error er)):er.2.2=4:=by
 rcases QS h with ⟨_,d⟩|⟨_,u,hu,d⟩|rfl|rfl
 · cases d
 · cases d
 · obtain⟨q,G,d,K⟩:=OO h
   cases q with
   |error D=>cases d;exact gG G
   |ok L=>cases d
 · obtain⟨O,Q,U,W,Y,k1,Z,l2,c2,x2,n2,k2,rfl,_,⟨D,F,d⟩|⟨u,F,J⟩⟩:=NJ h
   · cases d;exact GX m F
   · exact GX m J
end Go.SP
namespace Go.SP
open Go.SW Go.RowKit
def erU(er:Er):Int×Int×Int:=(er.2.2,er.1,er.2.1)
theorem oB{α β:Type}(g:α→β)(q:Except Er α):KY (q.map g)=KY q:=by cases q <;> rfl
def Za(m:Nat)(e:Cn)(dn:Ty)(r:Nd)(q:Except Er Ty)(s:Int×Int×Int):Prop:=(s=(0,0,0)∧∃d,YU m e r=some d∧q=d.map (dn.app ·))∨(s.1=4∧∃er,q=.error er∧s=erU er)
variable {co ln nm:Int}{m:Nat}{r:Nd}{dn:Ty}
theorem Za.start{e:Cn}{k:Nd}{q:Except Er Ty}(h:YU m e k=some q):Za m e .nil k q (0,0,0):=.inl ⟨C,q,h,by cases q <;> rfl⟩
theorem zH{e:Cn}{op:Int}{tx:lU}{k:Nd}{q:Except Er Ty}(h:YU m e (.cons op ln co tx nm k r)=some q):∃D,Gf m e op ln co tx k=some D:=by
 rcases Lw h with ⟨er,d,_⟩|⟨t,F,d,_⟩ <;> exact⟨_,d⟩
theorem Za.next{e:Cn}{op:Int}{tx:lU}{k:Nd}{q G:Except Er Ty}{D:Except Er T1}{t:T1}(h:YU m e (.cons op ln co tx nm k r)=some G)(J:q=G.map (dn.app ·))(F:Gf m e op ln co tx k=some D)(O:∀u,D=.ok u→t=u):Za m e (dn.snoc t) r q (KY D):=by
 rcases Lw h with ⟨er,d,rfl⟩|⟨u,K,d,Q,rfl⟩
 · rw[F] at d;cases d
   exact .inr ⟨GX m F,er,J,C⟩
 · rw[F] at d;cases d
   obtain rfl:=O u C;refine .inl ⟨C,K,Q,?_⟩;rw[J]
   cases K with
   |error _=>rfl
   |ok L=>show Except.ok (dn.app (t.cons L))=.ok ((dn.snoc t).app L);rw[Ty.snoc_app]
theorem Za.skip{e:Cn}{d2:Ty}{d:Nd}{q:Except Er Ty}{s:Int×Int×Int}(h:s.1=4)(er:Er)(D:q=.error er)(F:s=erU er):Za m e d2 d q s:=.inr ⟨h,er,D,F⟩
theorem Za.fin{e:Cn}{q:Except Er Ty}{s:Int×Int×Int}(h:Za m e dn .nil q s):KY q=s∧∀d,q=.ok d→dn=d:=by
 rcases h with ⟨rfl,G,F,D⟩|⟨_,er,rfl,rfl⟩
 · cases F
   have D:q=.ok (dn.app .nil):=D;rw[Ty.app_nil] at D;subst D;exact⟨C,λd h=>by cases h;rfl⟩
 · exact⟨C,λd h=>by cases h⟩
theorem yM{α β:Type}{g:α→β}{q:Except Er α}{y:β}(h:q.map g=.ok y):∃x,q=.ok x∧y=g x:=by
 cases q with
 |error _=>cases h
 |ok x=>cases h;exact⟨x,C,C⟩
abbrev MJ:=lU×Int×T1
def gK(p:MJ)(a:Option Addr)(c:Nat):List Value:=[S p.1,.int .i64 p.2.1,.int .i64 p.2.2.op,.int .i64 p.2.2.num,S p.2.2.tx,.slice a p.2.2.kids.len c]
def Kf(w:World)(f:Fq):List MJ→List Value→Prop
 | [],xs=>xs=[]
 |p::l,xs=>∃a c xs',xs=gK p a c++xs'∧Ae w f p.2.2.kids a c∧Kf w f l xs'
variable {f f':Fq}{xs:List Value}{i n:Nat}{M:Nat→Prop}{a:Option Addr}{T e:TypeId}{w w' w0:World}
theorem Kf.mono'(d:Hi w f w' f'):∀(k:List MJ)(xs:List Value),Kf w f k xs→Kf w' f' k xs
 | [],_,h=>h
 |_::r,_,⟨a,c,xs',D,F,G⟩=>⟨a,c,xs',D,Ae.mono _ _ _ _ F d,Kf.mono' d r xs' G⟩
theorem Kf.mono{k:List MJ}:Ea (λw f=>Kf w f k xs):=λ_ _ _ _ h d=>Kf.mono' d k xs h
theorem Kf.snoc{p:MJ}{c:Nat}(d:Ae w f p.2.2.kids a c):∀{k:List MJ}{xs:List Value},Kf w f k xs→Kf w f (k++[p]) (xs++gK p a c)
 | [],xs,h=>by have h:xs=[]:=h;subst h;exact⟨a,c,[],by simp,d,C⟩
 |_::_,_,⟨a',c',xs',D,F,G⟩=>⟨a',c',xs'++gK p a c,by rw[D,List.append_assoc],F,Kf.snoc d G⟩
def Ue(a:Option Addr)(b:Nat):Prop:=rb a=some b
def HG(T:TypeId)(a:Option Addr)(c n:Nat)(xs:List Value):World→Fq→Prop:=λw _=>BO w T 6 a c n xs
theorem BO.same{size:Nat}{c:Nat}(h:BO w e size a c n xs)(D:∀b,rb a=some b→w'.heap[b]?=w.heap[b]?):BO w' e size a c n xs :=
 ⟨h.1,h.2.imp id λ⟨g,l,d,F,G⟩=>⟨g,l,d,(D g (by rw[d];rfl)).trans F,G⟩⟩
theorem HG.stab{c:Nat}:EC (Ue a) (HG T a c n xs):=λ_ _ _ _ h _ d=>BO.same h d
def NY(w:World)(f:Fq)(l:List MJ)(a:Option Addr)(c:Nat):Prop:=l.length≤c∧(l=[]∨∃b off xs,a=some ⟨b,off,none⟩∧Cs w f b off xs∧Kf w f l xs)
theorem NY.mono{l:List MJ}{c:Nat}:Ea (λw f=>NY w f l a c):=λ_ _ _ _ h d=>⟨h.1,h.2.imp id λ⟨b,off,xs,D,F,G⟩=>⟨b,off,xs,D,F.mono d,Kf.mono' d _ _ G⟩⟩
theorem Kf.get{p:MJ}:∀{l:List MJ}{xs:List Value}{i:Nat},Kf w f l xs→l[i]?=some p→∃a c,Ae w f p.2.2.kids a c∧∀j v,(gK p a c)[j]?=some v→xs[i*6+j]?=some v
 | [],_,_,_,h=>by cases h
 |q::l,_,0,⟨a,c,xs',D,G,J⟩,h=>by
   cases h
   subst D;refine⟨a,c,G,λj v d=>?_⟩;have F:=(List.getElem?_eq_some_iff.1 d).1;rw[Nat.zero_mul,Nat.zero_add,List.getElem?_append_left F];exact d
 |q::l,_,i+1,⟨a,c,xs',D,G,J⟩,h=>by
   subst D;obtain⟨a',c',k1,k2⟩:=Kf.get J (i:=i) (p:=p) h;refine⟨a',c',k1,λj v d=>?_⟩;have K:(gK q a c).length=6:=rfl;rw[List.getElem?_append_right (by omega),K,show (i+1)*6+j-6=i*6+j by omega];exact k2 j v d
theorem NY.get{p:MJ}{l:List MJ}{c:Nat}(h:NY w f l a c)(d:l[i]?=some p):∃b off ka kc,a=some ⟨b,off,none⟩∧Cs w f b (off+i*6) (gK p ka kc)∧Ae w f p.2.2.kids ka kc:=by
 rcases h.2 with h|⟨b,off,xs,D,F,G⟩
 · subst h;cases d
 · obtain⟨ka,kc,k1,k2⟩:=G.get d
   refine⟨b,off,ka,kc,D,λj v J=>?_,k1⟩;have:=F _ v (k2 j v J);rwa[← Nat.add_assoc] at this
theorem HG.done{c:Nat}{l:List MJ}{f0:Fq}(F:HG T a c l.length xs w f)(L:Kf w f l xs)(G:C6 M w0 f0 w f)(O:∀b,rb a=some b→w0.heap.size≤b∧f b=0):∃f',C6 M w0 f0 w f'∧NY w f' l a c:=by
 rcases F.2 with ⟨_,hc,hz⟩|⟨b,q,U,J,h,_,hq,W⟩
 · exact⟨f,G,oM,.inl (List.length_eq_zero_iff.1 hz)⟩
 · subst U
   obtain⟨Y,Z⟩:=O b C
   have hF:Hi w f w (λk=>if k=b then l.length*6 else f k):=λk=>⟨by
     show f k≤if k=b then _ else _
     split
     · rename_i e;subst e;rw[Z];exact Nat.zero_le _
     · exact Nat.le_refl _,λ_ _=>C⟩
   refine⟨_,G.done Y J.lt (l.length*6),h,.inr ⟨b,0,xs,C,λj v K=>?_,Kf.mono' hF _ _ L⟩⟩;have D:=(List.getElem?_eq_some_iff.1 K).1;rw[F.1] at D;refine⟨by show 0+j<(if b=b then l.length*6 else f b);rw[if_pos C];omega,?_⟩;rw[Nat.zero_add,J.cell];have d:=K;rw[← W,List.getElem?_take,if_pos (by omega)] at d;exact d
end Go.SP
namespace Go.SW
open Go.RowKit
variable {Q:AQ}{σ:AW}{X:Cx}{Fs:List (World→Fq→Prop)}{ds:List Deferred}{B:List FB}{fs:List Fr}{H:List HB}{xs:List Value}{m n:Nat}{a:Option Addr}{P:Program}{e:TypeId}{w:World}
theorem BO.shrink{size:Nat}{c:Nat}(h:BO w e size a c n xs)(hm:m≤n):BO w e size a c m (xs.take (m*size)):=by
 have hle:m*size≤n*size:=Nat.mul_le_mul_right _ hm;refine⟨by rw[List.length_take,h.1];omega,h.2.imp (λ⟨d,D,F⟩=>⟨d,D,oM⟩) ?_⟩;rintro⟨b,l,d,D,F,G,J,K⟩;exact⟨b,l,d,D,oM,G,J,by rw[← K,List.take_take,Nat.min_eq_left hle]⟩
theorem mrk{R:List RB}{k:Kt}{size c q:Nat}(m:Nat)(hm:m≤q)
   (h:Aw P n Q ds X (⟨e,size,a,c,m,xs.take (m*size)⟩::R) B Fs k fs σ H):Aw P n Q ds X (⟨e,size,a,c,q,xs⟩::R) B Fs k fs σ H:=λw f d=>h w f
 {d with
   row:=λr D=>by
     rcases List.mem_cons.1 D with rfl|D
     · exact (d.row _ (.head _)).shrink hm
     · exact d.row r (.tail _ D),
   rnw:=λr D b F=>by
     rcases List.mem_cons.1 D with rfl|D
     · exact d.rnw _ (.head _) b F
     · exact d.rnw r (.tail _ D) b F,
   nd:=d.nd,
   own:=d.own}
end Go.SW
namespace Go.SP
open Go.SW Go.RowKit
variable {X:Cx}{f:Fq}{Fs:List (World→Fq→Prop)}{B:List FB}{H:List HB}{xs:List Value}{j n:Nat}{a:Option Addr}{T:TypeId}{w:World}
theorem Io.mono{P:List Value}{e:Cn}:Ea (λw f=>Io w f P e xs):=λ_ _ _ _ h d=>Io.mono' d _ _ h
theorem Jf.get{C:List Value}{p c:Nat}{e:Cn}{y:lU×T1}(d:C.length=n*6)(h:Jf w f C n e a c)(D:e[j]?=some y)(F:p=n+(e.length-1-j)):∃b off ka kc,a=some ⟨b,off,none⟩∧Cs w f b (off+p*6) (jJ y ka kc)∧Ae w f y.2.kids ka kc:=by
 obtain⟨_,b,off,xs,G,J,K⟩:=h;obtain⟨a',c',k1,k2⟩:=Io.get d K D;subst F;refine⟨b,off,a',c',G,λq v L=>?_,k1⟩;have:=J _ v (k2 q v L);rwa[← Nat.add_assoc] at this
def RD(l:List MJ):Prop:=∀p∈l,p.2.2.bnd
theorem RD.app{l:List MJ}{p:MJ}(h:RD l)(D:p.2.2.bnd):RD (l++[p]):=λq d=>(List.mem_append.1 d).elim (h q) λd=>by cases List.mem_singleton.1 d;exact D
def sC(x:lU):List Value:=[S x]
theorem U9{R:List RB}{C:List Value}{q c:Nat}{e:Cn}(F:AP X w f H (⟨T,6,a,c,q,xs⟩::R) B Fs)(J:Io w f C e xs)(L:q=n+e.length)(O:0<e.length):∃f',AP X w f' H R B Fs∧Jf w f' C n e a c:=by
 have K:=F.row _ (.head _);rcases K.2 with ⟨_,_,hz⟩|⟨b,l,G,_,D,_⟩
 · simp only at hz;omega
 · simp only at G D
   subst G;obtain⟨f',d⟩:=(F.more (B':=[]) (F':=[λw f=>Io w f C e xs]) (λ_ h=>by cases h) (AA.mem ⟨J,tQ⟩) (Ap.mem ⟨Io.mono,tQ⟩)).done (i:=0) rfl rfl;exact⟨f',d.less (List.Sublist.refl _) (List.Sublist.refl _) (λe he=>.tail _ he) (λφ h=>.tail _ h),oM,b,0,xs,rfl,d.fro _ (.head _),d.fact (i:=0) rfl⟩
end Go.SP
namespace Go.SP
open Go.SW Go.RowKit
variable {f:Fq}{T:TypeId}{w:World}
theorem primM(h:Vl w f):AP ⟨λ_=>False,Ue none,HG T none 0 0 [],w,f⟩ w f [] [] [] [] :=
 {AR (Fs:=[]) h tQ tQ with
   res:=F6 w T 6
   stab:=HG.stab
   mi:=λb d=>by cases d
   own:=λb d=>by cases d}
end Go.SP
namespace Go.SP
open Go.SW Go.RowKit
def ZO(m:Nat)(e:Cn)(x:Nd):Option (Except Er Unit):=(uD m e x).map λr=>r.map λ_=>()
theorem cF{t:T1}{s:lU}(h:shR t=some s):t=.con s .nil:=by
 cases t with
 |var=>cases h
 |con tx k=>cases k with
   |nil=>cases h;rfl
   |var=>cases h
   |con=>cases h
variable {f:Fq}{co ln nm:Int}{m:Nat}{r:Nd}{dn:Ty}{w:World}
theorem cG{e:Cn}{op:Int}{tx:lU}{k:Nd}{q:Except Er Unit}(h:ZO m e (.cons op ln co tx nm k r)=some q) :
   ∃o l c x n k1 F,k=.cons o l c x n k1 .nil∧(op=44∨op=46)∧Gf m e o l c x k1=some F∧((∃er,F=.error er∧q=.error er)∨∃s,F=.ok (.con s .nil)∧ZO m (if op==44 then (tx,.con s .nil)::e else e) r=some q):=by
 unfold ZO at h;obtain⟨L,d,rfl⟩:=Option.map_eq_some_iff.1 h
 cases k with
 |nil=>cases d
 |cons o l c x n k1 k2 =>
   cases k2 with
   |cons=>cases d
   |nil =>
     unfold uD at d
     split at d
     · rename_i D
       have D:op=44∨op=46:=by simpa using D
       cases G:Gf m e o l c x k1 with
       |none=>rw[G] at d;cases d
       |some F =>
         rw[G] at d;refine⟨o,l,c,x,n,k1,F,C,D,G,?_⟩
         cases F with
         |error er=>cases d;exact .inl ⟨er,C,C⟩
         |ok t =>
           dsimp only at d
           cases J:shR t with
           |none =>
             rw[J] at d
             cases d
           |some s =>
             obtain rfl:=cF J;rw[J] at d;refine .inr ⟨s,C,?_⟩;unfold ZO
             cases hw:uD m (if op==44 then (tx,T1.con s .nil)::e else e) r with
             |none=>rw[hw] at d;cases d
             |some w =>
               rw[hw] at d
               cases w with
               |error er=>cases d;rfl
               |ok w=>cases d;rfl
     · cases d
def iX:Ty→Bool
 |.nil=>true
 |.con _ .nil r=>iX r
 |_=>false
theorem dG{t:T1}{r:Ty}(h:iX (t.cons r)=true):(∃s,t=.con s .nil)∧iX r=true:=by
 cases t with
 |var=>cases h
 |con tx k=>cases k with
   |nil=>exact⟨⟨tx,C⟩,h⟩
   |var=>cases h
   |con=>cases h
theorem TX:∀{x:Ty}{s:lU},iX x=true→iX (x.snoc (.con s .nil))=true
 |.nil,_,_=>rfl
 |.var _ _,_,h=>by cases h
 |.con _ (.con _ _ _) _,_,h=>by cases h
 |.con _ (.var _ _) _,_,h=>by cases h
 |.con _ .nil r,s,h=>by
   exact (show iX (r.snoc (.con s .nil))=true from TX (x:=r) (s:=s) h)
def T6(m:Nat)(e:Cn)(r:Nd)(q:Except Er Unit)(s:Int×Int×Int)(dn:Ty):Prop:=(s=(0,0,0)∧ZO m e r=some q∧iX dn=true∧dn.bnd∧IX e)∨(s.1=4∧∃er,q=.error er∧s=erU er)
theorem T6.fin{e:Cn}{q:Except Er Unit}{s:Int×Int×Int}(h:T6 m e .nil q s dn):KY q=s:=by
 rcases h with ⟨rfl,d,_⟩|⟨_,er,rfl,rfl⟩
 · cases d;rfl
 · rfl
theorem T6.err{e:Cn}{q:Except Er Unit}{s:Int×Int×Int}(h:T6 m e r q s dn)(d:s.1≠0):KY q=s:=by
 rcases h with ⟨rfl,_⟩|⟨_,er,rfl,rfl⟩
 · exact absurd C d
 · rfl
theorem T6.ok{e:Cn}{q:Except Er Unit}{s:Int×Int×Int}(h:T6 m e r q s dn)(d:s.1=0):s=(0,0,0)∧ZO m e r=some q∧iX dn=true∧dn.bnd∧IX e:=by
 rcases h with h|⟨h,_⟩
 · exact h
 · rw[d] at h;cases h
theorem mS{X:Cx}{H:List HB}{R:List RB}{B:List FB}{Fs:List (World→Fq→Prop)}{T:TypeId}{q c:Nat}{a:Option Addr}{xs:List Value}(F:AP X w f H (⟨T,6,a,c,q,xs⟩::R) B Fs)(L:0<q):∃f',AP X w f' H R B Fs∧Jf w f' xs q [] a c:=by
 have J:=F.row _ (.head _);rcases J.2 with ⟨_,_,hz⟩|⟨b,l,G,_,d,_⟩
 · simp only at hz;omega
 · simp only at G d
   subst G;obtain⟨f',D⟩:=F.done (i:=0) C C;exact⟨f',D.less (List.Sublist.refl _) (List.Sublist.refl _) (λe he=>.tail _ he) (λφ h=>h),by simpa using d,b,0,xs,C,D.fro _ (.head _),C⟩
end Go.SP
namespace Go.SP
open Go.SW Go.RowKit
variable {m:Nat}{r:Nd}{dn:Ty}
theorem T6.next{e:Cn}{op o l c:Int}{tx x:lU}{k1:Nd}{q:Except Er Unit}{d:Except Er T1}{t:T1}(h:IX e)(D:iX dn=true)(F:dn.bnd)(hex:Gf m e o l c x k1=some d)
   (G:(∃er,d=.error er∧q=.error er)∨∃s,d=.ok (.con s .nil)∧ZO m (if op==44 then (tx,.con s .nil)::e else e) r=some q) (J:∀u,d=.ok u→t=u):T6 m (if op==44 then (tx,t)::e else e) r q (KY d) (dn.snoc t):=by
 rcases G with ⟨er,rfl,rfl⟩|⟨s,rfl,L⟩
 · exact .inr ⟨GX m hex,er,C,C⟩
 · obtain rfl:=J _ C
   obtain⟨g1,g2,g3⟩:=Fg m h hex;refine .inl ⟨C,L,TX D,?_,?_⟩
   · exact Ty.bnd_snoc F g3
   · split
     · exact h.cons g1 g2 g3
     · exact h
theorem ex_hs{e:Cn}{o l c:Int}{x:lU}{k1:Nd}{d:Except Er T1}{t:T1}(D:IX e)(hex:Gf m e o l c x k1=some d)(F:∀u,d=.ok u→t=u)(h:(KY d).1=0):Pb t=true∧t.bnd∧YE t 0≤1000:=by
 cases d with
 |error er=>exact absurd ((GX m hex).symm.trans h) dC
 |ok u =>
   obtain rfl:=F _ C;obtain⟨g1,g2,g3⟩:=Fg m D hex;exact⟨g1,g3,OP g1▸g2⟩
end Go.SP
namespace Go.SP
open Go.SW
variable {ys:List Value}
theorem one_app{xs:List Value}(h:∀v∈xs,v.oneCell'=true)(d:Mp ys=true):∀v∈xs++ys,v.oneCell'=true:=λv D=>(List.mem_append.1 D).elim (h v) (JL d v)
end Go.SP
namespace Go.SW
open Go.RowKit Go.SP
section
variable{P:Program}{n:Nat}{Q:AQ}{ds:List Deferred}{X:Cx}{R:List RB}{B:List FB}{Fs:List (World→Fq→Prop)}{fs:List Fr}{σ:AW}{H:List HB}{K:Kt}{T:TypeId}{c q:Nat}{a:Option Addr}{xs:List Value}
theorem mren(D:0<q)(h:Aw P n Q ds X R B ((λw f=>Jf w f xs q [] a c)::Fs) K fs σ H):Aw P n Q ds X (⟨T,6,a,c,q,xs⟩::R) B Fs K fs σ H:=λw f F=>by
 obtain⟨f',d,G⟩:=mS F D;exact h w f' (d.more (B':=[]) (F':=[λw f=>Jf w f xs q [] a c]) (λ_ h=>by cases h) (AA.mem ⟨G,tQ⟩) (Ap.mem ⟨Jf.mono,tQ⟩))
theorem mrty{k:Ty}(j:Nat)(F:nth Fs j=some (λw f=>AU w f k xs))(h:Aw P n Q ds X R B ((λw f=>Ae w f k a c)::Fs) K fs σ H):Aw P n Q ds X (⟨T,4,a,c,q,xs⟩::R) B Fs K fs σ H:=λw f D=>by
 obtain⟨f',d,G⟩:=El D (D.fn F);exact h w f' (d.more (B':=[]) (F':=[λw f=>Ae w f k a c]) (λ_ h=>by cases h) (AA.mem ⟨G,tQ⟩) (Ap.mem ⟨Ae.mono,tQ⟩))
variable {k:Nat}
theorem mrls{α:Type}{g:α→List Value}{l:List α}(h:Aw P n Q ds X R B ((λw f=>IJ g w f l a c)::Fs) K fs σ H):Aw P n Q ds X (⟨T,k,a,c,l.length,l.flatMap g⟩::R) B Fs K fs σ H:=λw f D=>by
 obtain⟨f',d,F⟩:=cP D;exact h w f' (d.more (B':=[]) (F':=[λw f=>IJ g w f l a c]) (λ_ h=>by cases h) (AA.mem ⟨F,tQ⟩) (Ap.mem ⟨IJ.mono,tQ⟩))
end
end Go.SW
namespace Go.Proofs.YtplnpgpagkpnmaaGreatDoor
open Go.SW Go.SP Go.RowKit
theorem TP(i:Nat):(WY i).length=2:=by cases i <;> rfl
theorem QL:∀i,(gF i).length≤15+40*i
 |0=>Nat.le_refl _
 |i+1=>by
   have:=QL i;simp only[gF,List.length_append,List.length_cons,List.length_nil,TP];omega
theorem QK:∀i,(iN i).length=i+1
 |0=>rfl
 |i+1=>by simp only[iN,List.length_append,List.length_cons,List.length_nil,QK i];omega
theorem big_u{c:Nat}(K:1≤c)(L:c≤14):∃x q r,P5 (Lg c)=some x∧x.size≤50000∧(Lg c).length≤60000∧ZO 100 [] x=some q∧GH (Lg c)=r ∧
   ((c≤8∧q=.ok ()∧∃l,r=.ok l)∨(8<c∧∃a b,q=.error (a,b,4)∧r=.error (a,b,4))):=by
 obtain⟨x,F,G,J,h⟩:=XB K L;rcases h with ⟨h,o,l,d,D⟩|⟨h,a,b,d,D⟩
 · exact⟨x,.ok (),.ok l,F,G,J,by unfold ZO;rw[d];rfl,D,.inl ⟨h,C,l,C⟩⟩
 · exact⟨x,.error (a,b,4),.error (a,b,4),F,G,J,by unfold ZO;rw[d];rfl,D,.inr ⟨h,a,b,C,C⟩⟩
theorem rem_m(z:Int)(m:Nat)(hm:0<m):∃i:Nat,i<m∧(IntKind.u64.wrap z).tmod (m:Int)=(i:Int):=by
 have d:0≤IntKind.u64.wrap z:=by rw[IntKind.wrap_u64];omega
 refine⟨((IntKind.u64.wrap z) % (m:Int)).toNat,?_,?_⟩
 · have D:=Int.emod_lt_of_pos (IntKind.u64.wrap z) (show (0:Int)<m by omega)
   have h:=Int.emod_nonneg (IntKind.u64.wrap z) (show (m:Int)≠0 by omega);omega
 · rw[Int.tmod_eq_emod_of_nonneg d]
   have h:=Int.emod_nonneg (IntKind.u64.wrap z) (show (m:Int)≠0 by omega);omega
variable {σ:AW}{x:Operand}{P:Program}{t' ty:tI}{w:wO}
theorem aS{t:tI}{y:Operand}{a b:lU}(d:ev σ x=some (S a))(D:ev σ y=some (S b))(h:a.length+b.length≤9223372036854775807:=by simp only[List.length_append,List.length_cons,List.length_nil,TP];omega):AM P σ (.binOp .add t x y t') ty w (S (a++b)) w:=Ic d D h
end Go.Proofs.YtplnpgpagkpnmaaGreatDoor
namespace Go.Proofs.YtplnpgpagkpnmaaGreatDoor
open Go.SW Go.SP Go.RowKit Go.Proofs.Tryz
theorem DQ(w:wO)(f:Fq)(d:Vl w f)(n:Int) :
  AO prog 18 #[iV n] w (AF (α:=Unit) (λ_=>tV (.var n) none 0) (λ_=>True) (λ_=>[]) w f):=by
 exact Dq [] func18 C C C (AR d tQ tQ)<|Af 13 [0] (λb1=>y<|λ_=>VS (λw f h=>A3 C (Ac C DU h.k0 C)) C)
theorem P7(w:wO)(f:Fq)(d:Vl w f)(tx:lU)(n:Nat)(a:oA)(c:Nat) :
  AO prog 61 #[S tx,.slice a n c] w (AF (α:=Unit) (λ_=>.agg #[iV 1,iV 0,S tx,.slice a n c]) (λ_=>True) (λ_=>[]) w f):=by
 exact Dq [] func61 C C C (AR d tQ tQ)<|Af 14 [0] (λb1=>y<|λ_=>VS (λw f h=>A3 C (Ac C DU h.k0 C)) C)
theorem O1(w:wO)(f:Fq)(d:Vl w f)(sp:Nat)(tx:lU)(k:Ty)(a:oA)(c:Nat) :
  AO prog 119 #[pB sp,tV (.con tx k) a c] w (AF (α:=Unit) (λ_=>tV (.con tx k) a c) (λ_=>True) (λ_=>[]) w f):=by
 exact Dq [] func119 C C C (AR d tQ tQ)<|Aa 8 (λb1=>λb2=>λ_=>zD<|Af 11 [1] (y<|λ_=>Dl<|Af 9 [1,0] (y<|y<|λ_=>VS (λw f h=>A3 C (Ac C DU h.k0 C)) C)))
theorem Wd(m:Nat)(U:SzF prog 67 m)(w:wO)(f:Fq)(W:Vl w f)(sp:Nat)(tx:lU)(k:Ty)(a:oA)(c:Nat)(n:Nat)(Y:n≤1000)(hm:k.size<m+1)(Z:Nu k=true)(F:(T1.con tx k).bnd)(hT:Ae w f k a c) :
  AO prog 67 #[pB sp,tV (.con tx k) a c,iV n] w (AF (α:=Unit) (λ_=>iV (Pu k (n+1):Nat)) (λ_=>True) (λ_=>[]) w f):=by
 have hbl:k.len≤200000:=F.1.1;refine Dq [λw f=>Ae w f k a c] func67 C C C (AR W ⟨hT,tQ⟩ ⟨Ae.mono,tQ⟩)<|Af 10 [0] (λb1=>y<|λ_=>B3 C C (eC X2 C C) (λw f d=>O1 w f d.vl sp tx k a c)<|Af 25 [0,0] (y<|aI ⟨oM,oM⟩<|y<|λ_=>?_));refine D6 (α:=Nat×Ty×Nat) (λx=>x.2.1.len) (λx=>x.1+x.2.1.len=k.len∧Pu k (n+1)=Pu x.2.1 x.2.2∧x.2.1.bnd∧x.2.1.size≤k.size∧Nu x.2.1=true∧x.2.2≤1001) (λx=>(E4 0 (pB sp) 2 (iV (x.2.2:Int)) 4 (pB b1) 7 (iV (x.1:Int)))) (λx=>X0 w f) (λx=>[⟨b1,[iV 1,iV 0,S tx,.slice a k.len c],75,true⟩]) (λx=>[]) (λx=>[]) (λx=>[λw f=>Bn w f a x.1 x.2.1]) (0,k,n+1) ⟨Nat.zero_add _,C,F.2,Nat.le_refl _,Z,Nat.succ_le_succ Y⟩ lE (λw f d=>d.more (B':=[]) (F':=[λw f=>Bn w f a 0 k]) nE (AA.mem ⟨Ae.at d.f0,tQ⟩) (Ap.mem ⟨Bn.mono,tQ⟩) |>.less sR sR nE (mR [0])) ?_;rintro⟨i,r,q⟩ ⟨Q,G,J,hs,h,K⟩;dsimp only at Q G J hs h K ⊢;refine Af 9 [0] (y<|λ_=>A6 21 C C (λL=>?_) (λL=>?_));refine Aa 5 (λ_=>A6 24 C C (λO=>?_) (λO=>?_));refine Aa 5 (λ_=>?_);have hil:i<k.len:=by have:=dT L;omega
 obtain⟨t2,r,rfl⟩:=Ty.cases1 r oM;rw[T1.len_cons] at Q;refine Te 0 C ?_;rintro⟨eb,eo,ka,kc⟩ rfl;have D:q≤1000:=by have:=dT O;omega
 exact Af 8 [0,100,0] (y<|aI oM<|y2<|λ_=>B3 C C (eC ZS C C) (λw f d=>U w f d.vl sp t2 ka kc q (by have:=T1.size_cons t2 r;omega) (Ei h).1 (T1.bnd_cons.1 J).1 D d.f0)<|Aa 9 (aI ⟨oM,oM⟩<|λ_=>C0 ((i+1,r,YE t2 q)) (show r.len<(t2.cons r).len by rw[T1.len_cons];omega) ⟨show i+1+r.len=k.len by omega,G.trans (gX D (Ei h).1),(T1.bnd_cons.1 J).2,show r.size≤k.size by have:=T1.size_cons t2 r;omega,(Ei h).2,vP t2 D⟩ lE (λw f d=>⟨_,d.less sR sR nE (mR [1])⟩)));exact Aa 3 (λ_=>Dl<|Aa 9 (λ_=>AK (Cy C C) (λw f d=>⟨(),f,(by rw[G,mY (by have:=dF O;omega)]),tQ,d.exm,tQ⟩)));refine Aa 8 (λ_=>Dl<|Aa 9 (λ_=>?_));obtain rfl:r=.nil:=Ty.len0 (by have:=dF L;omega);exact AK (Cy C C) (λw f d=>⟨(),f,(by rw[G];rfl),tQ,d.exm,tQ⟩)
theorem NP:∀m,SzF prog 67 m
 |0=>λ_ _ _ _ _ _ _ _ h=>absurd h (Nat.not_lt_zero _)
 |m+1=>λw f d sp t a c n hm D F G J=>by
  obtain⟨tx,k,rfl,K⟩:=Ni D;exact Wd m (NP m) w f d sp tx k a c n G hm K F J
theorem VI(m:Nat)(W:FlF prog 68 m)(w:wO)(f:Fq)(Z:Vl w f)(sp:Nat)(tx:lU)(k:Ty)(a:oA)(c:Nat)(hm:k.size<m+1)(hg:Nu k=true)(F:(T1.con tx k).bnd)(hT:Ae w f k a c) :
  AO prog 68 #[pB sp,tV (.con tx k) a c] w (AF (α:=oA×Nat) (λx=>tV (.con tx k) x.1 x.2) (λ_=>True) (λx=>[λw f=>Ae w f k x.1 x.2]) w f):=by
 have hbl:k.len≤200000:=F.1.1;refine Dq [λw f=>Ae w f k a c] func68 C C C (AR Z ⟨hT,tQ⟩ ⟨Ae.mono,tQ⟩)<|Af 10 [1] (λb1=>λb2=>y<|λ_=>B3 C C (eC X2 C C) (λw f d=>O1 w f d.vl sp tx k a c)<|Af 30 [1,1,1,0] (y<|y<|y<|λb3=>y<|λ_=>KR 75 4 ?_));refine D6 (α:=Nat×Ty×Ty×lV×oA×Nat) (λx=>x.2.1.len) (λx=>x.1+x.2.1.len=k.len∧x.2.2.1.len=x.1∧k=x.2.2.1.app x.2.1∧x.2.1.bnd∧x.2.1.size≤k.size∧Nu x.2.1=true) (λx=>(E5 0 (pB sp) 3 (pB b1) 4 (pB b2) 5 (pB b3) 6 (iV (x.1:Int)))) (λx=>X0 w f) (λx=>[⟨b3,[iV 1,iV 0,S tx,.slice x.2.2.2.2.1 x.1 x.2.2.2.2.2],75,true⟩,⟨b2,zT,75,true⟩,⟨b1,[iV 1,iV 0,S tx,.slice a k.len c],75,true⟩]) (λx=>[⟨75,4,x.2.2.2.2.1,x.2.2.2.2.2,x.1,x.2.2.2.1⟩]) (λx=>[]) (λx=>[λw f=>Bn w f a x.1 x.2.1,λw f=>AU w f x.2.2.1 x.2.2.2.1]) (0,k,.nil,[],none,0) ⟨Nat.zero_add _,C,C,F.2,Nat.le_refl _,hg⟩ lE (λw f d=>d.more (B':=[]) (F':=[λw f=>Bn w f a 0 k,λw f=>AU w f .nil []]) nE (AA.mem ⟨Ae.at d.f0,C,tQ⟩) (Ap.mem ⟨Bn.mono,AU.mono,tQ⟩) |>.less sR sR nE (mR [0,1])) ?_;rintro⟨i,r,G,xs,ra,rc⟩ ⟨Y,D,J,K,hs,h⟩;dsimp only at Y D J K hs h ⊢;refine Af 10 [2] (y<|λ_=>?_)
 ·
  refine A6 23 C C (λL=>?_) (λL=>?_);refine Aa 5 (λ_=>?_);have hil:i<k.len:=by have:=dT L;omega
  obtain⟨t2,r,rfl⟩:=Ty.cases1 r oM;rw[T1.len_cons] at Y;refine Te 0 C ?_;rintro⟨eb,eo,ka,kc⟩ rfl;refine Ca [1,2] Aj (rd [0,2,3,4,5,6,7] (.br 1 (.br 8 (.br 9 (.br 10 (.rd 11 (.br 12 .fin .fin)) .fin) .fin) .fin) (.br 8 (.br 1 (.br 9 (.br 10 (.rd 11 (.br 12 .fin .fin)) .fin) .fin) (.br 9 (.br 1 (.br 10 (.rd 11 (.br 12 .fin .fin)) .fin) .fin) .fin)) .fin))) C kR<|Bh 7 [1,100,0] (y<|aI oM<|y2<|λ_=>Bj C ?_ ?_);refine Af 2 [0] (y<|λ_=>Am [1,2] C<|Ah C<|BV C C (eC VU C C) (λw f d=>W w f d.vl sp t2 ka kc (by have:=T1.size_cons t2 r;omega) (Ei h).1 (T1.bnd_cons.1 K).1 d.f0) (λx=>⟨Ae.mono,tQ⟩) ?_);rintro⟨a2,c2⟩ -;refine Aa 1 (λ_=>Am [1,2] C<|Ah C<|Aa 2 (λb4=>λ_=>?_))
  rotate_left
  refine Ah C<|BV C C (eC VU C C) (λw f d=>W w f d.vl sp t2 ka kc (by have:=T1.size_cons t2 r;omega) (Ei h).1 (T1.bnd_cons.1 K).1 d.f0) (λx=>⟨Ae.mono,tQ⟩) ?_;rintro⟨a2,c2⟩ -;refine Aa 1 (λ_=>Am [1,2] C<|Bj C ?_ ?_);refine Af 2 [0] (y<|λ_=>Am [1,2] C<|Ah C<|Aa 2 (λb4=>λ_=>?_))
  rotate_left
  refine Ah C<|Aa 2 (λb4=>λ_=>Am [2,3] C<|Ah C<|Af 2 [1] (y<|λ_=>?_))
  rotate_left
  refine Aa 3 (λ_=>Dl<|Af 9 [0,1] (y<|y<|λ_=>?_));obtain rfl:r=.nil:=Ty.len0 (by have:=dF L;omega);rw[Ty.app_nil] at J;subst J;subst D;exact AK (λw f d=>A3 C (Ac C DU d.k1 C)) (λw f d=>let ⟨f2,O,hF⟩:=El d d.f1;⟨(ra,rc),f2,C,tQ,O.exm,⟨hF,tQ⟩⟩)
  all_goals
   refine Am [2,3] C<|Ah C<|BW 0 0 C C P2 C C C C C C C C (λ_ _=>C) oM oM λQ U=>Aa 1 (λ_=>Am [2,3] C<|AN 1 (λ_=>Ah C<|Af 2 [1] (y<|λ_=>Am [2,3] C<|Bp ?_)));exact Aa 7 (aI ⟨oM,oM⟩<|λ_=>C0 ((i+1,r,G.snoc t2,xs++tC t2 a2 c2,Q,U)) (show r.len<(t2.cons r).len by rw[T1.len_cons];omega) ⟨show i+1+r.len=_ by omega,show (G.snoc _).len=i+1 by rw[Ty.len_snoc,D],show k=(G.snoc t2).app r by rw[Ty.snoc_app];exact J,(T1.bnd_cons.1 K).2,show r.size≤k.size by have:=T1.size_cons t2 r;omega,(Ei h).2⟩ lE (λw f d=>⟨_,(d.more (B':=[]) (F':=[λw f=>AU w f (G.snoc t2) (xs++tC t2 a2 c2)]) nE (AA.mem ⟨AU.snoc d.f0 d.f4,tQ⟩) (Ap.mem ⟨AU.mono,tQ⟩)).less (.cons _ sR) sR nE (mR [3,0])⟩))

theorem MC:∀m,FlF prog 68 m
 |0=>λ_ _ _ _ _ _ _ h=>absurd h (Nat.not_lt_zero _)
 |m+1=>λw f d sp t a c hm D F G=>by
  obtain⟨tx,k,rfl,J⟩:=Ni D;exact VI m (MC m) w f d sp tx k a c hm J F G
theorem Ws(w:wO)(f:Fq)(J:Vl w f)(sp:Nat)(tx:lU)(k:Ty)(a:oA)(c:Nat)(G:Nu k=true)(h:(T1.con tx k).bnd)(K:Ae w f k a c) :
  AO prog 28 #[pB sp,tV (.con tx k) a c] w (AF (α:=oA×Nat) (λx=>.tuple #[tV ((FE (.con tx k)).getD (.var 0)) x.1 x.2,iV (if (FE (.con tx k)).isSome then 0 else 4)]) (λ_=>True) (λx=>[λw f=>Ae w f ((FE (.con tx k)).getD (.var 0)).kids x.1 x.2]) w f):=by
 refine Dq [λw f=>Ae w f k a c] func28 C C C (AR J ⟨K,tQ⟩ ⟨Ae.mono,tQ⟩)<|Af 12 [1] (λb1=>λb2=>y<|λ_=>B3 C C (eC ZS C C) (λw f d=>NP _ w f d.vl sp (.con tx k) a c 0 (Nat.lt_succ_self _) G h (Nat.zero_le _) d.f0)<|Aa 3 (λ_=>A6 9 C C (λF=>?_) (λF=>?_)));refine Af 10 [0] (y<|λ_=>?_);have D:FE (.con tx k)=none:=if_neg (by have:=dT F;show ¬Pu k 1≤1000;unfold YE at this;simp only[T1.kids,Nat.zero_add] at this;omega);exact AK (λw f d=>B5 C (Ac C DU d.k0 C) (Ak C)) (λw f d=>⟨(none,0),f,(by rw[D];rfl),tQ,d.exm,⟨by rw[D];exact Ae.nil _ _ _ _,tQ⟩⟩);refine Af 7 [1] (y<|λ_=>BV C C (eC VU C C) (λw f d=>MC _ w f d.vl sp (.con tx k) a c (Nat.lt_succ_self _) G h d.f0) (λx=>⟨Ae.mono,tQ⟩) ?_);rintro⟨a2,c2⟩ -;refine Af 5 [0] (y<|λ_=>?_);have D:FE (.con tx k)=some (.con tx k):=if_pos (by have:=dF F;show Pu k 1≤1000;unfold YE at this;simp only[T1.kids,Nat.zero_add] at this;omega);exact AK (λw f d=>B5 C (Ac C DU d.k0 C) (Ak C)) (λw f d=>⟨(a2,c2),f,(by rw[D];rfl),tQ,d.exm,⟨by rw[D];exact d.f0,tQ⟩⟩)
theorem KA(w:wO)(f:Fq)(d:Vl w f)(sp:Nat)(t:T1)(a:oA)(c:Nat)(h:Pb t=true)(D:t.bnd)(F:Ae w f t.kids a c) :
  AO prog 28 #[pB sp,tV t a c] w (AF (α:=oA×Nat) (λx=>.tuple #[tV ((FE t).getD (.var 0)) x.1 x.2,iV (if (FE t).isSome then 0 else 4)]) (λ_=>True) (λx=>[λw f=>Ae w f ((FE t).getD (.var 0)).kids x.1 x.2]) w f):=by
 obtain⟨tx,k,rfl,G⟩:=Ni h;exact Ws w f d sp tx k a c G D F
theorem HN(w:wO)(f:Fq)(d:Vl w f)(sp:Nat)(t:T1)(a:oA)(c:Nat)(D:Pb t=true)(F:t.bnd)(G:YE t 0≤1000)(J:Ae w f t.kids a c) :
  AO prog 28 #[pB sp,tV t a c] w (AF (α:=oA×Nat) (λx=>.tuple #[tV t x.1 x.2,iV 0]) (λ_=>True) (λx=>[λw f=>Ae w f t.kids x.1 x.2]) w f):=by
 have h:=KA w f d sp t a c D F J;rw[show FE t=some t from if_pos G] at h;exact h
theorem Ve(m:Nat)(K:VaF prog 66 m)(w:wO)(f:Fq)(L:Vl w f)(tx:lU)(k:Ty)(a:oA)(c:Nat)(hm:k.size<m+1)(O:Nu k=true)(D:(T1.con tx k).bnd)(Q:Ae w f k a c) :
  AO prog 66 #[tV (.con tx k) a c,.slice none 0 0] w (AF (α:=Unit) (λ_=>.slice none 0 0) (λ_=>True) (λ_=>[]) w f):=by
 have U:k.len≤200000:=D.1.1;refine Dq [λw f=>Ae w f k a c] func66 C C C (AR L ⟨Q,tQ⟩ ⟨Ae.mono,tQ⟩)<|Af 24 [0] (λb1=>y<|λ_=>?_);refine D6 (α:=Nat×Ty) (λx=>x.2.len) (λx=>x.1+x.2.len=k.len∧x.2.bnd∧x.2.size≤k.size∧Nu x.2=true) (λx=>(E3 1 (.slice none 0 0) 2 (pB b1) 6 (iV (x.1:Int)))) (λx=>X0 w f) (λx=>[⟨b1,[iV 1,iV 0,S tx,.slice a k.len c],75,true⟩]) (λx=>[]) (λx=>[]) (λx=>[λw f=>Bn w f a x.1 x.2]) (0,k) ⟨Nat.zero_add _,D.2,Nat.le_refl _,O⟩ lE (λw f d=>d.more (B':=[]) (F':=[λw f=>Bn w f a 0 k]) nE (AA.mem ⟨Ae.at d.f0,tQ⟩) (Ap.mem ⟨Bn.mono,tQ⟩) |>.less sR sR nE (mR [0])) ?_;rintro⟨i,r⟩ ⟨G,F,W,h⟩;dsimp only at G F W h ⊢;refine Af 10 [0] (y<|λ_=>A6 35 C C (λJ=>?_) (λJ=>?_));refine Aa 5 (λ_=>?_);have Y:i<k.len:=by have:=dT J;omega
 obtain⟨t2,r,rfl⟩:=Ty.cases1 r oM;rw[T1.len_cons] at G;refine Te 0 C ?_;rintro⟨Z,eo,ka,kc⟩ rfl;exact Af 7 [0,100,0] (y<|aI oM<|y2<|λ_=>B3 C C (eC R8 C C) (λw f d=>K w f d.vl t2 ka kc (by have:=T1.size_cons t2 r;omega) (Ei h).1 (T1.bnd_cons.1 F).1 d.f0)<|Aa 9 (aI ⟨oM,oM⟩<|λ_=>C0 ((i+1,r)) (show r.len<(t2.cons r).len by rw[T1.len_cons];omega) ⟨show i+1+r.len=k.len by omega,(T1.bnd_cons.1 F).2,show r.size≤k.size by have:=T1.size_cons t2 r;omega,(Ei h).2⟩ lE (λw f d=>⟨_,d.less sR sR nE (mR [1])⟩)));exact Aa 3 (λ_=>Dl<|Aa 9 (λ_=>AK (Cy C C) (λw f d=>⟨(),f,C,tQ,d.exm,tQ⟩)))
theorem Iq:∀m,VaF prog 66 m
 |0=>λ_ _ _ _ _ _ h=>absurd h (Nat.not_lt_zero _)
 |m+1=>λw f d t a c hm D F G=>by
  obtain⟨tx,k,rfl,J⟩:=Ni D;exact Ve m (Iq m) w f d tx k a c hm J F G
theorem VE(w:wO)(f:Fq)(d:Vl w f)(tx:lU)(a:oA)(c:Nat) :
  AO prog 69 #[tV (.con tx .nil) a c,.slice none 0 0] w (AF (α:=Unit) (λ_=>S tx) (λ_=>True) (λ_=>[]) w f):=by
 exact Dq [] func69 C C C (AR d tQ tQ)<|Af 36 [0,0,0] (λb1=>y<|y<|y<|λ_=>AK (Cy C C) (λw f h=>⟨(),f,C,tQ,h.exm,tQ⟩))
theorem Up(w:wO)(f:Fq)(h:Vl w f)(tx:lU)(a:oA)(c:Nat)(D:(T1.con tx .nil).bnd) :
  AO prog 29 #[tV (.con tx .nil) a c] w (AF (α:=Unit) (λ_=>S tx) (λ_=>True) (λ_=>[]) w f):=by
 refine Dq [] func29 C C C (AR h tQ tQ)<|Aa 7 (λb1=>λ_=>Ca [0] Aj (.rd 0 (.rd 1 (.br 2 (.br 3 (.rd 4 .fin) .fin) .fin))) C kR<|Bh 2 [0,0] (y<|y<|λ_=>Ah C<|B3 C C (eC R8 C C) (λw f d=>Iq 1 w f d.vl (.con tx .nil) a c (Nat.lt_succ_self _) C D (Ae.nil _ _ _ _))<|Aa 1 (λ_=>Am [0] C<|Ah C<|B3 C C (eC rU C C) (λw f d=>VE w f d.vl tx a c) ?_)));exact Aa 1 (λ_=>Am [0] C<|AN 1 (λ_=>Bp<|Aa 2 (λ_=>AK (Cy C C) (λw f d=>⟨(),f,C,tQ,d.exm,tQ⟩))))
theorem U1(m:Nat)(ih:SwF prog 17 m)(w:wO)(f:Fq)(hv:Vl w f)(l:List Int)(G:oA)(lc:Nat)(D:Ty)(F:oA)(J:Nat)(hl:l.length≤1000000)(Q:D.len≤200000)(hI:B7 w f l G lc)(hY:Ae w f D F J)(t:T1)(a:oA)(c:Nat)(hm:t.kids.size<m+1)(U:t.bnd)(hT:Ae w f t.kids a c) :
  AO prog 17 #[tV t a c,.slice G l.length lc,.slice F D.len J] w (AF (α:=T1×oA×Nat) (λx=>tV x.1 x.2.1 x.2.2) (λx=>Pb t=true→x.1=t) (λx=>[λw f=>Ae w f x.1.kids x.2.1 x.2.2]) w f):=by
 have hbl:=U.1.1;refine Dq [λw f=>Ae w f t.kids a c,λw f=>B7 w f l G lc,λw f=>Ae w f D F J] func17 C C C (AR hv ⟨hT,hI,hY,tQ⟩ ⟨Ae.mono,B7.mono,Ae.mono,tQ⟩)<|Af 14 [1] (λb1=>λb2=>y<|λ_=>?_)
 ·
  refine A6 12 C C (λW=>?_) (λW=>?_);refine Aa 8 (λ_=>?_);refine D6 (α:=Nat) (λi=>l.length-i) (λi=>i≤l.length) (λi=>(E5 1 (.slice G l.length lc) 2 (.slice F D.len J) 3 (pB b1) 6 (pB b2) 7 (iV (i:Int)))) (λi=>X0 w f) (λi=>[⟨b2,zT,75,true⟩,⟨b1,tC t a c,75,true⟩]) (λi=>[]) (λi=>[]) (λi=>[λw f=>Ae w f t.kids a c,λw f=>B7 w f l G lc,λw f=>Ae w f D F J]) (0) (Nat.zero_le _) lE (λw f d=>d.less sR sR nE (mR [0,1,2])) ?_;rintro i hi;refine Aa 8 (λ_=>?_)
  ·
   refine A6 17 C C (λL=>?_) (λL=>?_);refine Aa 7 (λ_=>A6 22 C C (λh3=>?_) (λh3=>?_));refine Aa 6 (λ_=>?_);have Y:i<l.length:=by have:=dT L;omega
   have hiy:i<D.len:=by have:=dT h3;omega
   obtain⟨v0,hx⟩:∃v,l[i]?=some v:=⟨_,List.getElem?_eq_getElem Y⟩;obtain⟨t2,ht2⟩:=Me (k:=D) (i:=i) hiy;refine pH 1 C hx ?_;rintro⟨b,off⟩ rfl;refine Ca [0,1] Aj (rd [0,1,2,3,4,5,6] .fin) C kR<|Bh 7 [100,0,1] (aI oM<|y2<|y<|λ_=>Bp<|Aa 1 (λ_=>A6 31 C C (λh4=>?_) (λh4=>?_)));refine Aa 2 (λ_=>Ja (α:=Nat×Nat×oA×Nat) (λx=>F=some ⟨x.1,x.2.1,none⟩) (λx=>[⟨x.1,x.2.1+i*4,tC t2 x.2.2.1 x.2.2.2⟩]) (λx=>[λw f=>Ae w f t2.kids x.2.2.1 x.2.2.2]) (λw f d=>let ⟨b,off,ka,kc,W,L,h3⟩:=Ae.nth d.f2 ht2;⟨(b,off,ka,kc),W,(oE L),AA.mem ⟨h3,tQ⟩⟩) (λx=>Ap.mem ⟨Ae.mono,tQ⟩) ?_);rintro⟨eb,eo,ka,kc⟩ rfl;refine Af 11 [100,0,0] (aI oM<|y2<|y<|λ_=>So<|Aa 3 (λ_=>?_));obtain⟨n,rfl⟩:=Ec W;exact AK (λw f d=>A3 C (Ac C DU d.k0 C)) (λw f d=>⟨(t2,ka,kc),f,C,(λh=>by cases h),d.exm,⟨d.f0,tQ⟩⟩);exact Aa 9 (aI ⟨oM,oM⟩<|λ_=>C0 (i+1) (show l.length-(i+1)<l.length-i by omega) (show i+1≤l.length by omega) lE (λw f d=>⟨_,d.less sR sR nE (mR [0,1,2])⟩));refine Aa 3 (λ_=>?_)
   rotate_left
   refine Aa 10 (λ_=>?_)
   all_goals
    exact Dl<|Af 10 [1,0] (y<|y<|λ_=>AK (λw f d=>A3 C (Ac C DU d.k0 C)) (λw f d=>⟨(t,a,c),f,C,(λ_=>C),d.exm,⟨d.f0,tQ⟩⟩))
  refine Af 23 [1,1,1,0] (y<|y<|y<|λb3=>y<|λ_=>KR 75 4 ?_);refine D6 (α:=Nat×Ty×Ty×lV×oA×Nat) (λx=>x.2.1.len) (λx=>x.1+x.2.1.len=t.kids.len∧x.2.2.1.len=x.1∧(Nu t.kids=true→t.kids=x.2.2.1.app x.2.1∧Nu x.2.1=true)∧x.2.1.bnd∧x.2.1.size≤t.kids.size) (λx=>(E6 1 (.slice G l.length lc) 2 (.slice F D.len J) 3 (pB b1) 6 (pB b2) 8 (pB b3) 9 (iV (x.1:Int)))) (λx=>X0 w f) (λx=>[⟨b3,[iV t.op,iV t.num,S t.tx,.slice x.2.2.2.2.1 x.1 x.2.2.2.2.2],75,true⟩,⟨b2,zT,75,true⟩,⟨b1,tC t a c,75,true⟩]) (λx=>[⟨75,4,x.2.2.2.2.1,x.2.2.2.2.2,x.1,x.2.2.2.1⟩]) (λx=>[]) (λx=>[λw f=>Bn w f a x.1 x.2.1,λw f=>AU w f x.2.2.1 x.2.2.2.1,λw f=>B7 w f l G lc,λw f=>Ae w f D F J]) (0,t.kids,.nil,[],none,0) ⟨Nat.zero_add _,C,λh=>⟨C,h⟩,U.2,Nat.le_refl _⟩ lE (λw f d=>d.more (B':=[]) (F':=[λw f=>Bn w f a 0 t.kids,λw f=>AU w f .nil []]) nE (AA.mem ⟨Ae.at d.f0,C,tQ⟩) (Ap.mem ⟨Bn.mono,AU.mono,tQ⟩) |>.less sR sR nE (mR [0,1,3,4])) ?_;rintro⟨i,r,Z,xs,ra,rc⟩ ⟨hi,O,hk,hb,hs⟩;dsimp only at hi O hk hb hs ⊢;refine Af 10 [2] (y<|λ_=>A6 48 C C (λL=>?_) (λL=>?_));refine Aa 5 (λ_=>?_);have Y:i<t.kids.len:=by have:=dT L;omega
  obtain⟨t2,r,rfl⟩:=Ty.cases1 r oM;rw[T1.len_cons] at hi;refine Te 0 C ?_;rintro⟨eb,eo,ka,kc⟩ rfl;refine Ca [1,2] Aj (rd [0,2,3,4,5,6,7,8] (.br 1 (.br 9 (.br 10 (.br 11 (.rd 12 (.br 13 .fin .fin)) .fin) .fin) .fin) (.br 9 (.br 1 (.br 10 (.br 11 (.rd 12 (.br 13 .fin .fin)) .fin) .fin) (.br 10 (.br 1 (.br 11 (.rd 12 (.br 13 .fin .fin)) .fin) .fin) .fin)) .fin))) C kR<|Bh 8 [1,100,0] (y<|aI oM<|y2<|λ_=>Bj C ?_ ?_);refine Af 2 [0] (y<|λ_=>Am [1,2] C<|Ah C<|BV C C (eC K6 C C) (λw f d=>ih w f d.vl l G lc D F J hl Q d.f4 d.f5 t2 ka kc (by have:=T1.size_cons t2 r;omega) (T1.bnd_cons.1 hb).1 d.f0) (λx=>⟨Ae.mono,tQ⟩) ?_);rintro⟨y3,a2,c2⟩ K;dsimp only at K ⊢;refine Aa 1 (λ_=>Am [1,2] C<|Ah C<|Aa 2 (λb4=>λ_=>?_))
  rotate_left
  refine Ah C<|BV C C (eC K6 C C) (λw f d=>ih w f d.vl l G lc D F J hl Q d.f4 d.f5 t2 ka kc (by have:=T1.size_cons t2 r;omega) (T1.bnd_cons.1 hb).1 d.f0) (λx=>⟨Ae.mono,tQ⟩) ?_;rintro⟨y3,a2,c2⟩ K;dsimp only at K ⊢;refine Aa 1 (λ_=>Am [1,2] C<|Bj C ?_ ?_);refine Af 2 [0] (y<|λ_=>Am [1,2] C<|Ah C<|Aa 2 (λb4=>λ_=>?_))
  rotate_left
  refine Ah C<|Aa 2 (λb4=>λ_=>Am [2,3] C<|Ah C<|Af 2 [1] (y<|λ_=>?_))
  rotate_left
  refine Aa 3 (λ_=>Dl<|Af 9 [0,1] (y<|y<|λ_=>?_));obtain rfl:r=.nil:=Ty.len0 (by have:=dF L;omega);obtain⟨tx,kk,rfl⟩:=EH W;subst O;exact AK (λw f d=>A3 C (Ac C DU d.k1 C)) (λw f d=>let ⟨f2,hM2,hF⟩:=El d d.f1;⟨(.con tx Z,ra,rc),f2,C,(λh=>by have h9:=(hk h).1;rw[Ty.app_nil] at h9;exact congrArg (T1.con tx) h9.symm),hM2.exm,⟨hF,tQ⟩⟩)
  all_goals
   refine Am [2,3] C<|Ah C<|BW 0 0 C C P2 C C C C C C C C (λ_ _=>C) oM oM λra2 rc2=>Aa 1 (λ_=>Am [2,3] C<|AN 1 (λ_=>Ah C<|Af 2 [1] (y<|λ_=>Am [2,3] C<|Bp ?_)));exact Aa 7 (aI ⟨oM,oM⟩<|λ_=>C0 ((i+1,r,Z.snoc y3,xs++tC y3 a2 c2,ra2,rc2)) (show r.len<(t2.cons r).len by rw[T1.len_cons];omega) ⟨show i+1+r.len=_ by omega,show (Z.snoc _).len=i+1 by rw[Ty.len_snoc,O],λh=>⟨show t.kids=(Z.snoc y3).app r by rw[Ty.snoc_app,K (Ei (hk h).2).1];exact (hk h).1,(Ei (hk h).2).2⟩,(T1.bnd_cons.1 hb).2,show r.size≤t.kids.size by have:=T1.size_cons t2 r;omega⟩ lE (λw f d=>⟨_,(d.more (B':=[]) (F':=[λw f=>AU w f (Z.snoc y3) (xs++tC y3 a2 c2)]) nE (AA.mem ⟨AU.snoc d.f0 d.f4,tQ⟩) (Ap.mem ⟨AU.mono,tQ⟩)).less (.cons _ sR) sR nE (mR [3,0,6,7])⟩))

theorem Fe:∀m,SwF prog 17 m
 |0=>λ_ _ _ _ _ _ _ _ _ _ _ _ _ _ _ _ h=>absurd h (Nat.not_lt_zero _)
 |m+1=>λw f D l F lc G J K L d O Q t a c hm U W=>U1 m (Fe m) w f D l F lc G J K L d O Q t a c hm U W
theorem Bq(w:wO)(f:Fq)(h:Vl w f)(tx:lU)(n:Nat)(a:oA)(c:Nat) :
  AO prog 15 #[S tx,.slice a n c] w (AF (α:=Unit) (λ_=>.agg #[iV 1,iV 0,S tx,.slice a n c]) (λ_=>True) (λ_=>[]) w f):=by
 exact Dq [] func15 C C C (AR h tQ tQ)<|Aa 9 (λb1=>λ_=>B3 C C (eC bL C C) (λw f d=>P7 w f d.vl tx n a c)<|Af 4 [0] (y<|λ_=>VS (λw f d=>A3 C (Ac C DU d.k0 C)) C))
variable {a:oA}
theorem tC2{tx:lU}{t u:T1}{c:Nat}:tC (.con tx (t.cons u.one)) a c=[iV 1,iV 0,S tx,.slice a 2 c]:=by
 have e:(t.cons u.one).len=2:=by simp[T1.len_cons,T1.one,Ty.len]
 unfold tC;rw[show (T1.con tx (t.cons u.one)).kids.len=2 from e];rfl
theorem Re(w:wO)(f:Fq)(hv:Vl w f)(l:Ty)(a:oA)(c:Nat)(hl:1≤l.len∧l.len≤10)(G:l.bnd)(hT:Ae w f l a c) :
  AO prog 113 #[.slice a l.len c] w (AF (α:=T1×oA×Nat) (λx=>tV x.1 x.2.1 x.2.2) (λx=>x.1.bnd) (λx=>[λw f=>Ae w f x.1.kids x.2.1 x.2.2]) w f):=by
 refine Dq [λw f=>Ae w f l a c] func113 C C C (AR hv ⟨hT,tQ⟩ ⟨Ae.mono,tQ⟩)<|Aa 6 (λb1=>λ_=>?_);obtain⟨t0,J⟩:=Me (k:=l) (i:=l.len-1) oM;have Q:((l.len:Int)-1).toNat=l.len-1:=oM;refine Ja (α:=Nat×Nat×oA×Nat) (λx=>a=some ⟨x.1,x.2.1,none⟩) (λx=>[⟨x.1,x.2.1+((l.len:Int)-1).toNat*4,tC t0 x.2.2.1 x.2.2.2⟩]) (λx=>[λw f=>Ae w f t0.kids x.2.2.1 x.2.2.2]) (λw f d=>let ⟨b,off,ka,kc,F,U,W⟩:=Ae.nth d.f0 J;⟨(b,off,ka,kc),F,(λe he=>by cases he with|head=>exact (by rw[Q];exact U)|tail _ h=>cases h),AA.mem ⟨W,tQ⟩⟩) (λx=>Ap.mem ⟨Ae.mono,tQ⟩) ?_;rintro⟨L,O,ka,kc⟩ rfl;refine Af 21 [100,0,0] (aI ⟨oM,oM⟩<|aI oM<|y2<|λb2=>y<|aI ⟨oM,oM⟩<|λ_=>?_);refine D6 (α:=Int×T1×oA×Nat) (λx=>(x.1+1).toNat) (λx=>x.1<l.len ∧ -1≤x.1∧x.2.1.bnd) (λx=>(E4 0 (.slice (some ⟨L,O,none⟩) l.len c) 2 (pB b1) 3 (pB b2) 4 (iV x.1))) (λx=>X0 w f) (λx=>[⟨b2,tC x.2.1 x.2.2.1 x.2.2.2,75,true⟩,⟨b1,zT,75,true⟩]) (λx=>[]) (λx=>[]) (λx=>[λw f=>Ae w f l (some ⟨L,O,none⟩) c,λw f=>Ae w f x.2.1.kids x.2.2.1 x.2.2.2]) ((l.len:Int)-2,t0,ka,kc) ⟨show (l.len:Int)-2<l.len by omega,show -1≤(l.len:Int)-2 by omega,FA G J⟩ lE (λw f d=>d.less sR sR nE (mR [1,0])) ?_;rintro⟨z,u,ua,uc⟩ ⟨Y,Z,D⟩;dsimp only at Y Z D ⊢;refine Aa 7 (λ_=>A6 15 C C (λF=>?_) (λF=>?_));refine Aa 5 (λ_=>?_);obtain⟨i,rfl⟩:∃i:Nat,z=(i:Int):=⟨z.toNat,by have:=dT F;omega⟩;obtain⟨t2,K⟩:=Me (k:=l) (i:=i) oM;refine Ja (α:=Nat×Nat×oA×Nat) (λx=>(some ⟨L,O,none⟩:oA)=some ⟨x.1,x.2.1,none⟩) (λx=>[⟨x.1,x.2.1+i*4,tC t2 x.2.2.1 x.2.2.2⟩]) (λx=>[λw f=>Ae w f t2.kids x.2.2.1 x.2.2.2]) (λw f d=>let ⟨b,off,ka,kc,F,U,W⟩:=Ae.nth d.f0 K;⟨(b,off,ka,kc),F,(oE U),AA.mem ⟨W,tQ⟩⟩) (λx=>Ap.mem ⟨Ae.mono,tQ⟩) ?_;rintro⟨eb2,eo2,ka2,kc2⟩ h44;obtain⟨rfl,rfl⟩:L=eb2∧O=eo2:=by cases h44;exact⟨C,C⟩
 refine Ca [1] Aj (rd [0,1,2,3] (.br 4 (.br 5 (.br 6 (.br 7 .fin .fin) .fin) .fin) .fin)) C kR<|Bh 4 [100,0] (aI oM<|y2<|λ_=>Ah C<|Af 2 [0] (y<|λ_=>Am [1] C<|Ah C<|Aa 2 (λb3=>λ_=>Am [2] C<|Ah C<|CJ 0 C C ?_)));exact Cj (λw f=>Ae w f (t2.cons u.one) (some ⟨b3,0,none⟩) 2) (λw f d=>Wz d.b0 d.f0 d.f2) Ae.mono<|B3 C C (eC CM C C) (λw f d=>Bq w f d.vl [45,62] 2 (some ⟨b3,0,none⟩) 2)<|Aa 1 (λ_=>AS [1] DG C (λ_ h=>.tail _ h)<|Ah C<|Af 2 [0] (y<|λ_=>AS [1] DG C (λ_ h=>.tail _ h)<|Bp<|Aa 7 (aI ⟨oM,oM⟩<|λ_=>C0 (((i:Int)-1,.con [45,62] (t2.cons u.one),some ⟨b3,0,none⟩,2)) (show ((i:Int)-1+1).toNat<((i:Int)+1).toNat by omega) ⟨show (i:Int)-1<l.len by omega,show -1≤(i:Int)-1 by omega,BS dC (by simp[T1.len_cons,T1.one,Ty.len]) (T1.bnd_cons.2 ⟨FA G K,F7 D⟩)⟩ lE (λw f d=>⟨_,(by dsimp only;rw[tC2];exact d.less sR sR nE (mR [2,0]))⟩))));exact Aa 3 (λ_=>Dl<|Af 9 [0,1] (y<|y<|λ_=>AK (λw f d=>A3 C (Ac C DU d.k1 C)) (λw f d=>⟨(u,ua,uc),f,C,D,d.exm,⟨d.f1,tQ⟩⟩)))
theorem Tz(m:Nat)(Z:VluF prog 25 m)(w:wO)(f:Fq)(hv:Vl w f)(op ln co nm:Int)(tx:lU)(k:Nd)(F:oA)(nc:Nat)(hm:k.size<m+1)(hsz:k.size≤1000000)(hN:AJ w f k F nc) :
  AO prog 25 #[nV op ln co tx nm k F nc] w (AF (α:=Bool) (λx=>.bool x) (λ_=>True) (λ_=>[]) w f):=by
 have hkl:=Nd.len_le k;refine Dq [λw f=>AJ w f k F nc] func25 C C C (AR hv ⟨hN,tQ⟩ ⟨AJ.mono,tQ⟩)<|Af 21 [0] (λb1=>y<|λ_=>?_)
 ·
  refine A6 6 C C (λh1=>?_) (λh1=>?_);refine Aa 12 (λ_=>?_)
  rotate_left
  refine Aa 7 (λ_=>A6 6 C C (λh2=>?_) (λh2=>?_));refine Aa 12 (λ_=>?_)
  rotate_left
  refine Aa 7 (λ_=>A6 6 C C (λh3=>?_) (λh3=>?_));refine Aa 12 (λ_=>?_)
  rotate_left
  refine Aa 7 (λ_=>A6 6 C C (λh4=>?_) (λh4=>?_));refine Aa 12 (λ_=>?_)
  rotate_left
  refine Aa 7 (λ_=>A6 6 C C (λh5=>?_) (λh5=>?_));refine Aa 12 (λ_=>?_)
  rotate_left
  refine Aa 6 (λ_=>A6 6 C C (λh6=>?_) (λh6=>?_));refine Aa 9 (λ_=>?_)
  rotate_left
  refine Aa 8 (λ_=>A6 13 C C (λh7=>?_) (λh7=>?_));refine Aa 11 (λ_=>?_);refine D6 (α:=Nat×Nd) (λx=>x.2.len) (λx=>x.1+x.2.len=k.len∧x.2.size≤k.size) (λx=>(E2 1 (pB b1) 3 (iV (x.1:Int)))) (λx=>X0 w f) (λx=>[⟨b1,Kd op ln co tx nm F k.len nc,58,true⟩]) (λx=>[]) (λx=>[]) (λx=>[λw f=>Bc w f F x.1 x.2]) (0,k) ⟨Nat.zero_add _,Nat.le_refl _⟩ lE (λw f d=>d.more (B':=[]) (F':=[λw f=>Bc w f F 0 k]) nE (AA.mem ⟨AJ.at d.f0,tQ⟩) (Ap.mem ⟨Bc.mono,tQ⟩) |>.less sR sR nE (mR [0])) ?_;rintro⟨i,r⟩ ⟨U,G⟩;dsimp only at U G ⊢;refine Af 10 [0] (y<|λ_=>A6 20 C C (λh8=>?_) (λh8=>?_));refine Aa 6 (λ_=>?_);have W:i<k.len:=by have:=dT h8;omega
  obtain⟨J,K,L,O,Q,k2,r,rfl⟩:=Nd.cases1 r oM;have Y:i+(r.len+1)=k.len:=U;refine H4 0 C ?_;rintro⟨eb,eo,ka,kc⟩ rfl;refine Af 6 [0,100,0] (y<|aI oM<|y2<|λ_=>BV C C (eC Mj C C) (λw f d=>Z w f d.vl J K L Q O k2 ka kc (by have h:k2.size+r.size+1≤_:=G;omega) (by have h:k2.size+r.size+1≤_:=G;omega) d.f0) (λx=>trivial) ?_);rintro bv -;refine Aa 3 (λ_=>A6 29 C C (λh=>?_) (λh=>?_));replace h:=Ee h;refine Aa 9 (λ_=>So<|Aa 4 (λ_=>?_))
  rotate_left
  replace h:=Eh h;exact Aa 9 (aI ⟨oM,oM⟩<|λ_=>C0 ((i+1,r)) (show r.len<r.len+1 from Nat.lt_succ_self _) ⟨show i+1+r.len=_ by omega,show r.size≤_ by have h:k2.size+r.size+1≤_:=G;omega⟩ lE (λw f d=>⟨_,d.less sR sR nE (mR [1])⟩));refine Aa 3 (λ_=>Dl<|Aa 10 (λ_=>?_))
  rotate_left
  refine Aa 6 (λ_=>A6 13 C C (λh8=>?_) (λh8=>?_));refine Aa 8 (λ_=>?_);refine D6 (α:=Nat×Nd) (λx=>x.2.len) (λx=>x.1+x.2.len=k.len∧x.2.size≤k.size) (λx=>(E2 1 (pB b1) 3 (iV (x.1:Int)))) (λx=>X0 w f) (λx=>[⟨b1,Kd op ln co tx nm F k.len nc,58,true⟩]) (λx=>[]) (λx=>[]) (λx=>[λw f=>Bc w f F x.1 x.2]) (0,k) ⟨Nat.zero_add _,Nat.le_refl _⟩ lE (λw f d=>d.more (B':=[]) (F':=[λw f=>Bc w f F 0 k]) nE (AA.mem ⟨AJ.at d.f0,tQ⟩) (Ap.mem ⟨Bc.mono,tQ⟩) |>.less sR sR nE (mR [0])) ?_;rintro⟨i,r⟩ ⟨U,G⟩;dsimp only at U G ⊢;refine Af 10 [0] (y<|λ_=>A6 20 C C (λh=>?_) (λh=>?_));refine Aa 6 (λ_=>?_);have W:i<k.len:=by have:=dT h;omega
  obtain⟨J,K,L,O,Q,k2,r,rfl⟩:=Nd.cases1 r oM;have Y:i+(r.len+1)=k.len:=U;refine H4 0 C ?_;rintro⟨eb,eo,ka,kc⟩ rfl;refine Af 6 [0,100,0] (y<|aI oM<|y2<|λ_=>BV C C (eC Mj C C) (λw f d=>Z w f d.vl J K L Q O k2 ka kc (by have h:k2.size+r.size+1≤_:=G;omega) (by have h:k2.size+r.size+1≤_:=G;omega) d.f0) (λx=>trivial) ?_);rintro bv -;refine Aa 3 (λ_=>A6 29 C C (λD=>?_) (λD=>?_));replace D:=Ee D;refine Aa 9 (λ_=>So<|Aa 4 (λ_=>?_))
  rotate_left
  replace D:=Eh D;exact Aa 9 (aI ⟨oM,oM⟩<|λ_=>C0 ((i+1,r)) (show r.len<r.len+1 from Nat.lt_succ_self _) ⟨show i+1+r.len=_ by omega,show r.size≤_ by have h:k2.size+r.size+1≤_:=G;omega⟩ lE (λw f d=>⟨_,d.less sR sR nE (mR [1])⟩));refine Aa 3 (λ_=>Dl<|Aa 10 (λ_=>?_))
  rotate_left
  refine Aa 10 (λ_=>?_)
  all_goals
   exact AK (Cy C C) (λw f d=>⟨_,f,C,tQ,d.exm,tQ⟩)

theorem FK:∀m,VluF prog 25 m
 |0=>λ_ _ _ _ _ _ _ _ _ _ _ h=>absurd h (Nat.not_lt_zero _)
 |m+1=>λw f D op ln co nm tx k F nc hm d G=>Tz m (FK m) w f D op ln co nm tx k F nc hm d G
theorem Vf(w:wO)(f:Fq)(G:Vl w f)(d sb:Nat)(ev h D:Value)(J:EE 72 d sb ev h D (0,0,0) w f)(K:f d=0)(ln co e:Int) :
  AO prog 20 #[pB d,.agg #[iV ln,iV co],iV e] w (CY (α:=Unit) (λ_=>.tuple #[]) (λ_=>True) (λb=>b=d) (λ_=>EE 72 d sb ev h D (e,ln,co)) (λ_=>[]) w f):=by
 exact Hm (X:=⟨λb=>b=d,λ_=>False,λ_ _=>True,w,f⟩) (H:=[⟨d,[pB sb,ev,h,D,iV 0,iV 0,iV 0],72,false⟩]) (R:=[]) (B:=[]) (Fs:=[]) (f:=f) func20 C C C (vZ G J K tQ tQ)<|Af 31 [1,1,0,1] (λb1=>y<|y<|y<|y<|λ_=>iW (λw f F=>Gp C) (λw f F=>⟨(),f,C,tQ,F.exm,F.blk _ qC,tQ⟩))
theorem Sg(w:wO)(f:Fq)(d:Vl w f)(h:Nat) :
  AO prog 115 #[pB h,.slice none 0 0] w (AF (α:=Unit) (λ_=>.slice none 0 0) (λ_=>True) (λ_=>[]) w f):=by
 exact Dq [] func115 C C C (AR d tQ tQ)<|Aa 17 (λ_=>zD<|Aa 12 (λ_=>Dl<|Aa 9 (λ_=>AK (Cy C C) (λw f D=>⟨(),f,C,tQ,D.exm,tQ⟩))))
theorem XQ(w:wO)(f:Fq)(Y:Vl w f)(D sb:Nat)(ev G J:Value)(W:EE 72 D sb ev G J (0,0,0) w f)(Z:f D=0)(t:T1)(a:oA)(c:Nat)(K:Pb t=true)(L:t.bnd)(ln co:Int)(hT:Ae w f t.kids a c) :
  AO prog 27 #[pB D,tV t a c,.agg #[iV ln,iV co]] w (CY (α:=Unit) (λ_=>tV t a c) (λ_=>True) (λb=>b=D) (λ_=>EE 72 D sb ev G J (KY (Dk ln co t))) (λ_=>[]) w f):=by
 refine Hm (X:=⟨λb=>b=D,λb=>b=D,EE 72 D sb ev G J (0,0,0),w,f⟩) (H:=[]) (R:=[]) (B:=[]) (Fs:=[λw f=>Ae w f t.kids a c]) (f:=f) func27 C C C (LX (M:=λb=>b=D) (I:=EE 72 D sb ev G J (0,0,0)) Y W EE.stab (λb L=>by cases L;exact⟨AE.lt W,Z⟩) ⟨hT,tQ⟩ ⟨Ae.mono,tQ⟩)<|Aa 13 (λb1=>λb2=>λb3=>λ_=>Cz C C (λw f d=>Ai C Gc d.res C)<|Aa 5 (λ_=>IQ (λw=>AE w D [pB sb,ev,G,J,iV 0,iV 0,iV 0] 72) (λw f h _=>h) [0,1,2] Aj (rd [0,1,2,3,4] (.br 5 (rd [6,7,8] (.br 9 (.br 10 (.rd 11 .fin) .fin) .fin)) (.br 9 (.br 5 (rd [6,7,8] (.br 10 (.rd 11 .fin) .fin)) .fin) .fin))) C kR kR kR (λ_ _ _ _ _ h=>h)<|AN 3 (λ_=>CP C C C (λw hK=>Ai C Xx hK.2.2 C)<|Bh 1 [2] (y<|λ_=>?_))))
 ·
  refine Bj C ?_ ?_;refine BV C C (eC IZ C C) (λw f d=>KA w f d.vl sb t a c K L d.f0) (λx=>⟨Ae.mono,tQ⟩) ?_;rintro⟨fa,fc⟩ -;refine Aa 1 (λ_=>AS [0,1,2] (λw f h _=>h) C (λ_ h=>h)<|AN 3 (λ_=>Ah C<|Aa 2 (λb4=>λ_=>AS [1,2,3] (λw f h _=>h) C (λ_ h=>h) ?_)))
  rotate_left
  refine Ah C<|Aa 2 (λb4=>λ_=>AS [1,2,3] (λw f h _=>h) C (λ_ h=>h)<|Ah C<|BV C C (eC IZ C C) (λw f d=>KA w f d.vl sb t a c K L d.f0) (λx=>⟨Ae.mono,tQ⟩) ?_);rintro⟨fa,fc⟩ -;refine Aa 1 (λ_=>AS [1,2,3] (λw f h _=>h) C (λ_ h=>h)<|AN 3 (λ_=>?_))
  all_goals
   refine Ah C<|Af 2 [0] (y<|λ_=>AS [1,2,3] (λw f h _=>h) C (λ_ h=>h)<|AN 1 (λ_=>Bp<|Aa 7 (λ_=>A6 24 C C (λO=>?_) (λO=>?_))));refine Af 4 [2] (y<|λ_=>JK (XX:=λ_ _=>False) C C (eC sO C C) (λw f d=>(Vf w f d.vl D sb ev G J d.res (d.mi D C).2.1 ln co 4).retP) (λ_=>EE.stab) (λ_=>trivial) (λ_ _ _ _ _ h=>h.elim) ?_);rintro⟨⟩ -;refine Af 9 [3,1] (y<|y<|λ_=>?_);have F:(FE t).isSome=false:=by have Q:=O;cases U:(FE t).isSome <;> simp[U] at Q ⊢
   exact AK (λw f d=>A3 C (Ac C DU d.k1 C)) (λw f d=>⟨(),f,C,tQ,d.exm,(by rw[bQ K F];exact d.res),tQ⟩);refine Af 10 [3,1] (y<|y<|λ_=>?_);have F:(FE t).isSome=true:=by have Q:=O;cases U:(FE t).isSome <;> simp[U] at Q ⊢
   exact AK (λw f d=>A3 C (Ac C DU d.k1 C)) (λw f d=>⟨(),f,C,tQ,d.exm,(by rw[Ys K F];exact d.res),tQ⟩)

theorem Zg(w:wO)(f:Fq)(Q:Vl w f)(d sb:Nat)(ev F G:Value)(D J K:Int)(he:D≠0)(L:EE 72 d sb ev F G (D,J,K) w f)(U:f d=0)(t:T1)(a:oA)(c:Nat)(ln co:Int) :
  AO prog 27 #[pB d,tV t a c,.agg #[iV ln,iV co]] w (CY (α:=Unit) (λ_=>tV t a c) (λ_=>True) (λb=>b=d) (λ_=>EE 72 d sb ev F G (D,J,K)) (λ_=>[]) w f):=by
 refine Hm (X:=⟨λb=>b=d,λb=>b=d,EE 72 d sb ev F G (D,J,K),w,f⟩) (H:=[]) (R:=[]) (B:=[]) (Fs:=[]) (f:=f) func27 C C C (LX (M:=λb=>b=d) (I:=EE 72 d sb ev F G (D,J,K)) Q L EE.stab (λb W=>by cases W;exact⟨AE.lt L,U⟩) tQ tQ)<|Aa 13 (λb1=>λb2=>λb3=>λ_=>Cz C C (λw f h=>Ai C Gc h.res C)<|Aa 3 (λ_=>A6 13 C C (λO=>?_) (λO=>?_)));exact absurd (by simpa using O) he;exact Af 10 [2,0] (y<|y<|λ_=>AK (λw f h=>A3 C (Ac C DU h.k0 C)) (λw f h=>⟨(),f,C,tQ,h.exm,h.res,tQ⟩))
theorem SU(w:wO)(f:Fq)(F:Vl w f)(d sb:Nat)(ev h D:Value)(r:Except Er T1)(G:EE 72 d sb ev h D (KY r) w f)(J:f d=0)(t:T1)(a:oA)(c:Nat)(K:∀u,r=.ok u→t=u∧Pb u=true∧u.bnd)(he:∀er,r=.error er→er.2.2=4)(ln co:Int)(L:Ae w f t.kids a c) :
  AO prog 27 #[pB d,tV t a c,.agg #[iV ln,iV co]] w (CY (α:=Unit) (λ_=>tV t a c) (λ_=>True) (λb=>b=d) (λ_=>EE 72 d sb ev h D (KY (zQ ln co r))) (λ_=>[]) w f):=by
 cases r with
 |ok u =>
  obtain⟨rfl,O,Q⟩:=K u C;exact XQ w f F d sb ev h D G J t a c O Q ln co L
 |error er =>
  obtain⟨l,o,e⟩:=er;exact Zg w f F d sb ev h D e l o (by have U:e=4:=he _ C;rw[U];decide) G J t a c ln co
theorem Yv(m:Nat)(U:BaF prog 65 72 m)(w:wO)(f:Fq)(hv:Vl w f)(D sb:Nat)(ev F G:Value)(hX:EE 72 D sb ev F G (0,0,0) w f)(hf:f D=0)(C:lV)(n:Nat)(e:Cn)(J:oA)(K:Nat)(hC:C.length=n*6)(W:∀v∈C,v.oneCell'=true)(hne:n+e.length+(m+1)≤100000)(L:IX e)(Y:Jf w f C n e J K)(op ln co nm:Int)(tx:lU)(k:Nd)(O:oA)(nc:Nat)(r:Except Er T1)(Z:k.size≤1000000)(Q:I9 m e op tx k=some r)(hN:AJ w f k O nc) :
  AO prog 23 #[pB D,nV op ln co tx nm k O nc,.slice J (n+e.length) K] w (CY (α:=T1×oA×Nat) (λx=>tV x.1 x.2.1 x.2.2) (λx=>∀t,zQ ln co r=.ok t→x.1=t) (λb=>b=D) (λ_=>EE 72 D sb ev F G (KY (zQ ln co r))) (λx=>[λw f=>Ae w f x.1.kids x.2.1 x.2.2]) w f):=by
 refine Hm (X:=⟨λb=>b=D,λb=>b=D,EE 72 D sb ev F G (0,0,0),w,f⟩) (H:=[]) (R:=[]) (B:=[]) (Fs:=[λw f=>Jf w f C n e J K,λw f=>AJ w f k O nc]) (f:=f) func23 rfl rfl rfl (LX (M:=λb=>b=D) (I:=EE 72 D sb ev F G (0,0,0)) hv hX EE.stab (λb hb=>by cases hb;exact⟨AE.lt hX,hf⟩) ⟨Y,hN,tQ⟩ ⟨Jf.mono,AJ.mono,tQ⟩)<|Aa 12 (λb1=>λb2=>λ_=>Cz rfl rfl (λw f d=>Ai rfl Gc d.res rfl)<|Aa 7 (λ_=>Ca [1] Aj (rd [0,1,2,3,5,6] (.br 4 (.br 7 (.br 8 .fin .fin) .fin) .fin)) rfl kR<|Bh 6 [0,0] (y<|y<|λ_=>Ah rfl<|JK (XX:=λ_ _=>False) rfl rfl (eC xK rfl rfl) (λw f d=>(U w f d.vl D sb ev F G d.res (d.mi D rfl).2.1 C n e J K hC W oM L d.f0 op ln co nm tx k O nc r Z Q d.f1).retP) (λ_=>EE.stab) (λ_=>⟨Ae.mono,tQ⟩) (λ_ _ _ _ _ h=>h.elim) ?_)));rintro⟨t,a2,c2⟩ hq;dsimp only at hq ⊢;refine Aa 1 (λ_=>Am [1] rfl<|Ah rfl<|JK (XX:=λ_ _=>False) rfl rfl (eC sA rfl rfl) (λw f d=>(SU w f d.vl D sb ev F G r d.res (d.mi D rfl).2.1 t a2 c2 (λu hu=>⟨hq u hu,(TL L (hu▸Q)).1,(TL L (hu▸Q)).2⟩) (λer her=>gZ L (her▸Q)) ln co d.f0).retP) (λ_=>EE.stab) (λ_=>trivial) (λ_ _ _ _ _ h=>h.elim) ?_);rintro⟨⟩ -;exact Aa 1 (λ_=>Am [1] rfl<|Ah rfl<|Af 2 [0] (y<|λ_=>Am [1] rfl<|Bp<|Aa 2 (λ_=>AK (λw f d=>A3 rfl (Ac rfl DU d.k0 rfl)) (λw f d=>⟨(t,a2,c2),f,rfl,(λu hu=>yI hu hq),d.exm,d.res,⟨d.f0,tQ⟩⟩))))
theorem Xh(w:wO)(f:Fq)(U:Vl w f)(d sb:Nat)(ev F G:Value)(D J K:Int)(he:D≠0)(O:EE 72 d sb ev F G (D,J,K) w f)(W:f d=0)(op ln co nm:Int)(tx:lU)(Y L:Value) :
  AO prog 23 #[pB d,.agg #[iV op,iV ln,iV co,S tx,iV nm,Y],L] w (CY (α:=Unit) (λ_=>tV (.var 0) none 0) (λ_=>True) (λb=>b=d) (λ_=>EE 72 d sb ev F G (D,J,K)) (λ_=>[]) w f):=by
 refine Hm (X:=⟨λb=>b=d,λb=>b=d,EE 72 d sb ev F G (D,J,K),w,f⟩) (H:=[]) (R:=[]) (B:=[]) (Fs:=[]) (f:=f) func23 C C C (LX (M:=λb=>b=d) (I:=EE 72 d sb ev F G (D,J,K)) U O EE.stab (λb Z=>by cases Z;exact⟨AE.lt O,W⟩) tQ tQ)<|Aa 12 (λb1=>λb2=>λ_=>Cz C C (λw f h=>Ai C Gc h.res C)<|Aa 3 (λ_=>A6 11 C C (λQ=>?_) (λQ=>?_)));exact Af 9 [0] (y<|λ_=>AK (λw f h=>A3 C (Ac C DU h.k0 C)) (λw f h=>⟨(),f,C,tQ,h.exm,h.res,tQ⟩));exact absurd (by simpa using Q) he
theorem YM(m:Nat)(d:BaF prog 65 72 m):XpF prog 23 72 (m+1):=λw f L O sb ev Q U W Y C n e Z ec hC h D hE F op ln co nm tx k na nc r G K hN=>by
 rw[gI] at K;obtain⟨r0,J,rfl⟩:=Option.map_eq_some_iff.1 K;exact Yv m d w f L O sb ev Q U W Y C n e Z ec hC h D hE F op ln co nm tx k na nc r0 G J hN
end Go.Proofs.YtplnpgpagkpnmaaGreatDoor
namespace Go.SP
structure S6 where
 met:List lU
 keeps:Bool
def idxB:List lU→lU→Int
 | [],_ => -1
 |k::l,n=>if k==n then 0 else (let j:=idxB l n;if j<0 then j else j+1)
def varT(vars:List lU)(tx:lU):lU:=39::(Utf8.encode (97+idxB vars tx)).data.toList
def M0(d:lU→Bool)(tx:lU)(s:S6):S6 :=
 ⟨if d tx&&!s.met.contains tx then s.met++[tx] else s.met,s.keeps&&!(tx==FF)&&!(tx==Gw)⟩
def I0(d:lU→Bool)(vars:List lU):Nd→S6→lU×S6
 |.nil,s=>([],s)
 |.cons op _ _ tx _ k r,s =>
   let a:=if op==31 then (varT vars tx,s)
     else if k.len=0 then (tx,M0 d tx s)
     else ([40]++tx++(I0 d vars k (M0 d tx s)).1++[41],(I0 d vars k (M0 d tx s)).2)
   let b:=I0 d vars r a.2
   (32::(a.1++b.1),b.2)
def Sn(d:lU→Bool)(vars:List lU)(op:Int)(tx:lU)(k:Nd)(s:S6):lU×S6 :=
 if op==31 then (varT vars tx,s)
 else if k.len=0 then (tx,M0 d tx s)
 else ([40]++tx++(I0 d vars k (M0 d tx s)).1++[41],(I0 d vars k (M0 d tx s)).2)
def W7:Nd→List lU×Nd×Nd
 |.nil=>([],.nil,.nil)
 |.cons op ln co tx nm k r=>if op==31 then (tx::(W7 r).1,.cons op ln co tx nm k (W7 r).2.1,(W7 r).2.2) else ([],.nil,.cons op ln co tx nm k r)
def Xo(d:lU→Bool)(vars:List lU):Nd→S6→List lU×S6
 |.nil,s=>([],s)
 |.cons _ _ _ tx _ k r,s=>((tx++(I0 d vars k s).1)::(Xo d vars r (I0 d vars k s).2).1,(Xo d vars r (I0 d vars k s).2).2)
def qO:List lU→lU
 | []=>[]
 | [a]=>a
 |a::b::l=>a++44::qO (b::l)
def zM(d:lU→Bool)(tx:lU)(k:Nd)(s:S6):lU×S6 :=
 let v:=W7 k
 let c:=Xo d v.1 v.2.2 s
 ([124]++tx++(I0 d v.1 v.2.1 c.2).1++[61]++qO c.1,(I0 d v.1 v.2.1 c.2).2)
def Yu(ds:List (lU×Nd))(tx:lU):Bool:=(Bo ds tx).isSome
end Go.SP
namespace Go.SP
open Go.SW Go.RowKit
def StW(w:wO)(l:List lU)(a:oA)(c:Nat):Prop:=l.length≤c∧(l=[]∨∃b off,a=some ⟨b,off,none⟩∧∀j v,(l.map S)[j]?=some v→w.cell? ⟨b,off+j,none⟩=some v)
def StF(w:wO)(f:Fq)(l:List lU)(a:oA)(c:Nat):Prop:=l.length≤c∧(l=[]∨∃b off,a=some ⟨b,off,none⟩∧Cs w f b off (l.map S))
section
variable{w:wO}{f:Fq}{l:List lU}{a:oA}{c:Nat}
theorem StF.mono:Ea (λw f=>StF w f l a c):=λ_ _ _ _ h d=>⟨h.1,h.2.imp id λ⟨b,off,D,F⟩=>⟨b,off,D,F.mono d⟩⟩
theorem StW.fz(h:StW w l a c):StF w (mJ w) l a c:=⟨h.1,h.2.imp id λ⟨b,off,F,d⟩=>⟨b,off,F,λj v D=>⟨Lr (d j v D),d j v D⟩⟩⟩
theorem StF.get(h:StF w f l a c){i:Nat}{x:lU}(d:l[i]?=some x):∃b off,a=some ⟨b,off,none⟩∧Cs w f b (off+i*1) [S x]:=by
 rcases h.2 with h|⟨b,off,F,G⟩
 · subst h;cases d
 · refine⟨b,off,F,λj v D=>?_⟩
   cases j with
   |zero =>
     cases D
     have:=G i (S x) (by rw[List.getElem?_map,d];rfl);rw[Nat.mul_one,Nat.add_zero];exact this
   |succ j=>cases D
theorem StW.row{e:tI}(h:BO w e 1 a c l.length (l.map S)):StW w l a c:=by
 rcases h.2 with ⟨_,_,hz⟩|⟨b,q,F,G,D,_,L,J⟩
 · exact⟨oM,.inl (by cases l with|nil=>rfl|cons _ _=>simp at hz)⟩
 · refine⟨D,.inr ⟨b,0,F,λj v K=>?_⟩⟩
   rw[Nat.zero_add,G.cell];have d:=K;rw[← J,List.getElem?_take] at d
   split at d
   · exact d
   · cases d
end
def L6(w:wO)(f:Fq):List (lU×Nd)→List (lU×Value)→Prop
 | [],es=>es=[]
 |(k,x)::l,es=>∃op ln co nm a c d,es=(k,.agg (Kd op ln co k nm a x.len c).toArray)::d∧AJ w f x a c∧L6 w f l d
theorem L6.mono{w w':wO}{f f':Fq}(D:Hi w f w' f'):∀(l:List (lU×Nd))(es:List (lU×Value)),L6 w f l es→L6 w' f' l es
 | [],_,h=>h
 |(_,_)::l,_,⟨op,ln,co,nm,a,c,d,F,G,J⟩=>⟨op,ln,co,nm,a,c,d,F,AJ.mono _ _ _ _ G D,L6.mono D l d J⟩
theorem L6.look{w:wO}{f:Fq}{n:lU}:∀{l:List (lU×Nd)}{es:List (lU×Value)},L6 w f l es→(Bo l n=none→EF es n=none)∧∀x,Bo l n=some x→∃op ln co nm a c,EF es n=some (.agg (Kd op ln co n nm a x.len c).toArray)∧AJ w f x a c
 | [],es,h=>by
   have h:es=[]:=h;subst h;exact⟨λ_=>C,λt h=>by cases h⟩
 |(k,x)::l,es,⟨op,ln,co,nm,a,c,D,F,G,J⟩=>by
   subst F;have K:=L6.look (n:=n) J;simp only[Bo,EF]
   by_cases d:k=n
   · subst d
     refine⟨λh=>by simp at h,λt' h=>?_⟩;simp at h;subst h;exact⟨op,ln,co,nm,a,c,by simp,G⟩
   · have L:(k==n)=false:=by simpa using d
     have O:(n==k)=false:=by simpa using λe:n=k=>d e.symm
     rw[L,O];simpa using K
def MIw(wb mb:Nat)(a:oA)(b:Nat):Prop:=b=wb∨b=mb∨rb a=some b
structure iU(T e:tI)(wb mb:Nat)(ds:List (lU×Nd))(sl kp:Value)(a:oA)(c:Nat)(l:List lU)(w:wO)(f:Fq):Prop where
 blk:AE w wb [.map (some mb),sl,kp] T
 map:∃es,BM Ck w mb es∧L6 w f ds es∧Kq es
 row:BO w e 1 a c l.length (l.map S)
 ne:wb≠mb∧rb a≠some wb∧rb a≠some mb
section
variable{T e:tI}{wb mb:Nat}{ds:List (lU×Nd)}{sl sl' kp kp':Value}{a a':oA}{c c':Nat}{l:List lU}{w w':wO}{f f':Fq}{x:lU}
theorem iU.stab:EC (MIw wb mb a) (iU T e wb mb ds sl kp a c l):=λ_ _ _ _ h J D =>
 ⟨(D wb (.inl C)).trans h.blk,let ⟨es,d,F,G⟩:=h.map;⟨es,d.heap (D mb (.inr (.inl C))),L6.mono J _ _ F,G⟩,⟨h.row.1,h.row.2.imp id λ⟨b,q,d,F,G⟩=>⟨b,q,d,(D b (.inr (.inr (by rw[d];rfl)))).trans F,G⟩⟩,h.ne⟩
variable {b:Nat}
theorem iU.lt(h:iU T e wb mb ds sl kp a c l w f)(d:MIw wb mb a b):b<w.heap.size:=by
 rcases d with rfl|rfl|d
 · exact h.blk.lt
 · obtain⟨_,D,_⟩:=h.map;exact D.lt
 · exact h.row.lt d
theorem iU.app(h:iU T e wb mb ds sl kp a c l w f)(F:Hi w f w' f')(G:BO w' e 1 a' c' (l.length+1) (l.map S++[S x]))(d:EO a w a' w'):iU T e wb mb ds sl kp a' c' (l++[x]) w' f' where
 blk:=h.blk.grow d (λe=>h.ne.2.1 e.symm)
 map:=let ⟨es,D,J,K⟩:=h.map;⟨es,D.heap (d.block mb D.lt (λe=>h.ne.2.2 e.symm)),L6.mono F _ _ J,K⟩
 row:=by simpa using G
 ne:=⟨h.ne.1,λe=>d.own.elim (λo=>h.ne.2.1 (o.symm.trans e)) (λo=>absurd h.blk.lt (by rw[← Option.some.inj (o.symm.trans e)];exact Nat.lt_irrefl _)),λe=>d.own.elim (λo=>h.ne.2.2 (o.symm.trans e)) (λo=>absurd (h.lt (.inr (.inl C))) (by rw[← Option.some.inj (o.symm.trans e)];exact Nat.lt_irrefl _))⟩
theorem iU.store(h:iU T e wb mb ds sl kp a c l w f)(D:Hi w f w' f')(d:Gj wb w w')(F:AE w' wb [.map (some mb),sl',kp'] T):iU T e wb mb ds sl' kp' a c l w' f' where
 blk:=F
 map:=let ⟨es,G,J,K⟩:=h.map;⟨es,G.heap (d.block mb (λe=>h.ne.1 e.symm)),L6.mono D _ _ J,K⟩
 row:=BO.chgB h.row d h.ne.2.1
 ne:=h.ne
end
variable {b:Nat}
theorem MIw.or{wb mb:Nat}{a a':oA}(h:MIw wb mb a' b):MIw wb mb a b∨rb a'=some b:=h.elim (λh=>.inl (.inl h)) λh=>h.elim (λh=>.inl (.inr (.inl h))) .inr
def Nd.cap:Nd→Nat
 |.nil=>0
 |.cons _ _ _ tx _ k r=>tx.length+8+k.cap+r.cap
end Go.SP
namespace Go.SW
open Go.RowKit Go.SP
section
variable{P:Program}{n:Nat}{Q:AQ}{ds:List Deferred}{X:Cx}{R:List RB}{B:List FB}{Fs:List (wO→Fq→Prop)}{fs:List Fr}{σ:AW}{H:List HB}{k:Kt}{na:oA}{i c:Nat}
end
end Go.SW
namespace Go.SP
open Go.SW Go.RowKit
theorem EO.fle{a a':oA}{w w':wO}{f:Fq}(d:EO a w a' w')(D:Vl w f)(F:∀b,rb a=some b→f b=0):Hi w f w' f:=λb=>⟨Nat.le_refl _,λo G=>by
 have J:b<w.heap.size:=by
   rcases Nat.lt_or_ge b w.heap.size with h|h
   · exact h
   · have:=D b h;omega
 exact D2 (d.block b J (λe=>by rw[F b e.symm] at G;omega)) o⟩
theorem XY(d:lU→Bool)(vs:List lU)(op ln co nm:Int)(tx:lU)(k r:Nd)(s:S6):I0 d vs (.cons op ln co tx nm k r) s=(32::((Sn d vs op tx k s).1++(I0 d vs r (Sn d vs op tx k s).2).1),(I0 d vs r (Sn d vs op tx k s).2).2):=by
 unfold Sn
 conv=>lhs;unfold I0
end Go.SP
namespace Go.SP
open Go.SW Go.RowKit
end Go.SP
namespace Go.SP
end Go.SP
namespace Go.SP
open Go.SW Go.RowKit
def frA(a:oA)(c i:Nat):oA:=if c=i then a else a.map (·.add (i*6))
theorem Q9.drop{w:wO}{f:Fq}:∀(u r:Nd)(b off:Nat),Q9 w f (u.app r) b off→Q9 w f r b (off+u.len*6)
 |.nil,r,b,off,h=>by show Q9 w f r b (off+0*6);rw[Nat.zero_mul];exact h
 |.cons _ _ _ _ _ _ x,r,b,off,h=>by
   have:=Q9.drop x r b _ h.2;rw[show off+(Nd.cons _ _ _ _ _ _ x).len*6=off+6+x.len*6 by simp only[Nd.len];omega];exact this
variable {r:Nd}
theorem AJ.drop{w:wO}{f:Fq}{u:Nd}{a:oA}{c i:Nat}(h:AJ w f (u.app r) a c)(hu:u.len=i):AJ w f r (frA a c i) (c-i):=by
 have G:=Nd.app_len u r;refine⟨by have:=h.1;omega,?_⟩;rcases h.2 with e|⟨b,off,d,D⟩
 · exact .inl (by cases u with|nil=>exact e|cons=>cases e)
 · have F:=Q9.drop u r b off D
   unfold frA
   split
   · exact .inl (Nd.len0 (by have:=h.1;omega))
   · exact .inr ⟨b,off+i*6,by rw[d];simp[Addr.add],hu▸F⟩
abbrev DS:=List (lU×Nd)
def Gd(ds:DS)(s:S6):Prop:=s.met.Nodup∧∀x,x∈s.met→Yu ds x=true
structure Rl(ds:DS)(s t:S6):Prop where
 gd:Gd ds s→Gd ds t
 pre:s.met <+: t.met
section
variable{ds:DS}{s t u:S6}{vs:List lU}{op:Int}{tx:lU}
theorem Rl.refl:Rl ds s s:=⟨id,List.prefix_refl _⟩
theorem Rl.trans(d:Rl ds s t)(D:Rl ds t u):Rl ds s u:=⟨λh=>D.gd (d.gd h),d.pre.trans D.pre⟩
theorem Rl.meet:Rl ds s (M0 (Yu ds) tx s):=by
 unfold M0
 by_cases d:(Yu ds tx&&!s.met.contains tx)=true
 · simp only[d,if_true]
   rw[Bool.and_eq_true,Bool.not_eq_true'] at d;refine⟨λh=>⟨?_,?_⟩,List.prefix_append _ _⟩
   · simp only
     rw[List.nodup_append];refine⟨h.1,by simp,λa G b F e=>?_⟩;rw[List.mem_singleton] at F;subst e F;rw[List.contains_iff_mem.2 G] at d;exact absurd d.2 dC
   · intro x D
     rcases List.mem_append.1 D with D|D
     · exact h.2 x D
     · rw[List.mem_singleton.1 D];exact d.1
 · simp only[d]
   exact⟨id,List.prefix_refl _⟩
theorem Rl.all:∀(k:Nd)(s:S6),Rl ds s (I0 (Yu ds) vs k s).2
 |.nil,_=>.refl
 |.cons op ln co tx nm k r,s=>by
   rw[XY];refine .trans ?_ (Rl.all r _);unfold Sn
   split
   · exact .refl
   · split
     · exact .meet
     · exact .trans .meet (Rl.all k _)
theorem Rl.cons:∀(k:Nd)(s:S6),Rl ds s (Xo (Yu ds) vs k s).2
 |.nil,_=>.refl
 |.cons _ _ _ _ _ k r,s=>.trans (Rl.all k s) (Rl.cons r _)
theorem Rl.data{k:Nd}:Rl ds s (zM (Yu ds) tx k s).2:=.trans (Rl.cons _ _) (Rl.all _ _)
end
section
variable{ds:DS}{op ln co nm o l c m:Int}{tx x:lU}{k r k1 q:Nd}{out:List (lU×lU)}{w:lU×S6}
end
def MpG(mb:Nat)(ds:DS)(w:wO)(f:Fq):Prop:=∃es,BM Ck w mb es∧L6 w f ds es∧Kq es
variable {mb:Nat}{M:Nat→Prop}
theorem MpG.stab{ds:DS}(hm:M mb):EC M (MpG mb ds):=λ_ _ _ _ ⟨es,d,h,D⟩ F G=>⟨es,d.heap (G mb hm),L6.mono F _ _ h,D⟩
end Go.SP
namespace Go.SW
end Go.SW
namespace Go.SP
open Go.SW Go.RowKit
theorem Gd.nil{ds:DS}{b:Bool}:Gd ds ⟨[],b⟩:=⟨List.nodup_nil,λ_ h=>by cases h⟩
end Go.SP
namespace Go.SP
open Go.SW Go.RowKit
abbrev GR:=lU×lU×Int
def gV(x:GR):lV:=[S x.1,S x.2.1,.int .i64 x.2.2]
def yY(w:wO)(f:Fq)(l:List GR)(a:oA)(c:Nat):Prop:=l.length≤c∧(l=[]∨∃b off,a=some ⟨b,off,none⟩∧Cs w f b off (l.flatMap gV))
variable {f:Fq}{i:Nat}{a:oA}{w:wO}
theorem yY.mono{l:List GR}{c:Nat}:Ea (λw f=>yY w f l a c):=λ_ _ _ _ h d=>⟨h.1,h.2.imp id λ⟨b,off,D,F⟩=>⟨b,off,D,F.mono d⟩⟩
theorem yY.get{l:List GR}{c:Nat}{x:GR}(h:yY w f l a c)(d:l[i]?=some x):∃b off,a=some ⟨b,off,none⟩∧Cs w f b (off+i*3) (gV x):=by
 rcases h.2 with h|⟨b,off,D,F⟩
 · subst h;cases d
 · exact⟨b,off,D,Cs.flat gV 3 (λ_=>C) l off i _ F d⟩
theorem qM:∀l:List (lU×lU),bC l=l.flatMap λx=>[S x.1,S x.2]
 | []=>rfl
 |(u,v)::l=>by rw[bC,qM l];rfl
theorem MB.getR{l:List (lU×lU)}{c:Nat}{n t:lU}(h:MB w f l a c)(d:l[i]?=some (n,t)):∃b off,a=some ⟨b,off,none⟩∧Cs w f b (off+i*2) [S n,S t]:=by
 rcases h.2 with h|⟨b,off,F,D⟩
 · subst h;cases d
 · rw[qM] at D
   exact⟨b,off,F,Cs.flat (λx:lU×lU=>[S x.1,S x.2]) 2 (λ_=>C) l off i _ D d⟩
end Go.SP
namespace Go.SW
open Go.RowKit
section
variable{P:Program}{σ:AW}{w:wO}{ty T:tI}{x y:Operand}
variable {zl:lV}{b bytes k yc:Nat}{ya:oA}{e:tI}
theorem kQ{size:Nat}(h:Kc P T=some (e,size,bytes,zl)){c:Nat}(G:ev σ x=some (.slice (some ⟨b,0,none⟩) k c))(J:ev σ y=some (.slice ya 0 yc))(F:k≤c) :
   AM P σ (.call {callee:=.builtin .append,args:=#[x,y],argTypes:=#[T,T]}) ty w (.slice (some ⟨b,0,none⟩) k c) w:=by
 unfold Kc at h
 split at h
 · rename_i W hu
   split at h
   · rename_i i K
     have L:(Builtin.firstCells i.size 0 (.slice ya 0 yc)).run P w=.ok #[] w:=by
       cases ya with
       |none=>rfl
       |some a=>exact run_firstCells_some (P:=P) w i.size 0 a 0 yc [] (by simp) (λj u O=>by cases O)
     have U:(Builtin.append_ #[T,T] ty #[.slice (some ⟨b,0,none⟩) k c,.slice ya 0 yc]).run P w=.ok (.slice (some ⟨b,0,none⟩) k c) w:=by
       simp[Builtin.append_,run_underlying hu,sizeOf,typeInfo,K,Builtin.lenOf,F,L,storeCells]
     intro Y _ _ _ _ D;simp only[execOp,resolve,invoke,builtin,Sem.run_bind,Sem.run_pure,Result.andThen_ok,List.map_toArray,List.map_cons,List.map_nil,D _ _ G,D _ _ J,U]
   · cases h
 · cases h
end
section
variable{P:Program}{n:Nat}{Q:AQ}{ds:List Deferred}{X:Cx}{R:List RB}{B:List FB}{Fs:List (wO→Fq→Prop)}{fs:List Fr}{σ:AW}{H:List HB}
variable{all r:List Oper}{ty T:tI}{pos:String}{af:Array Edge}{g:Option (Nat×Bool)}{d:Nat}{x y:Operand}
variable {xs zl:lV}{b bytes k m yc:Nat}{ya:oA}{e:tI}
theorem Rc{size:Nat}{c:Nat}{news:lV}{R':oA→Nat→List RB}(i:Nat)(hg:gd all σ g=some true)(hd:Nat.blt d n=true)(hT:Kc P T=some (e,size,bytes,zl))(J:Nat.beq zl.length size=true)(K:Nat.blt 0 size=true)
   (hs:ev σ x=some (.slice (some ⟨b,0,none⟩) k c)) (hx:ev σ y=some (.slice ya m yc)) (G:getR R i=some ⟨e,size,some ⟨b,0,none⟩,c,k,xs⟩)
   (hY:∀w f,AP X w f H R B Fs→(m=0∧news=[])∨∃q off,ya=some ⟨q,off,none⟩∧Cs w f q off news) (hl:news.length=m*size) (h1:∀v∈news,v.oneCell'=true)
   (hS:∀a' c',Rj R i ⟨e,size,a',c',k+m,xs++news⟩=some (R' a' c')) (L:(k+m)*bytes≤140737488355328) (O:k+m≤9223372036854775807)
   (h:∀a' c',Aw P n Q ds X (R' a' c') B Fs (.ops all r) fs (AD σ d (.slice a' (k+m) c')) H) :
   Aw P n Q ds X R B Fs (.ops all (⟨some d,.call {callee:=.builtin .append,args:=#[x,y],argTypes:=#[T,T]},ty,pos,af,g⟩::r)) fs σ H:=λw f F=>by
 rcases Nat.eq_zero_or_pos m with U|U
 · subst U
   have hn:news=[]:=List.eq_nil_of_length_eq_zero (by simpa using hl);subst hn;have D:=F.row _ (CU G);have W:k≤c:=D.n_le;have Y:EO (some ⟨b,0,none⟩) w (some ⟨b,0,none⟩) w:=⟨C,C,C,Nat.le_refl _,λ_ _ _=>C,.inl C⟩;have Z:=hS (some ⟨b,0,none⟩) c;refine Bv hg (Ab hd (kQ hT hs hx W) ?_);have:=h (some ⟨b,0,none⟩) c w f (F.grow G Z (by rw[List.append_nil];exact D) Y);exact this
 · rcases hY w f F with ⟨h2,_⟩|⟨q,off,rfl,hC⟩
   · omega
   · obtain⟨a',c',w',hr,hrw,Y⟩:=RN (ty:=ty) hT J K hs hx (F.row _ (CU G)) (λj u hj=>by rw[D5];exact (hC j u hj).2) hl h1 U L O
     exact Bv hg (Ab hd hr (h a' c' w' f (F.grow G (hS a' c') hrw Y)))
end
end Go.SW
namespace Go.SP
open Go.SW Go.RowKit
variable {f:Fq}{a:oA}
theorem yY.news{w:wO}{l:List GR}{c:Nat}(h:yY w f l a c):(l.length=0∧l.flatMap gV=[])∨∃q off,a=some ⟨q,off,none⟩∧Cs w f q off (l.flatMap gV):=h.2.imp (λh=>by subst h;exact⟨C,C⟩) id
theorem MB.news{w:wO}{l:List (lU×lU)}{c:Nat}(h:MB w f l a c):(l.length=0∧bC l=[])∨∃q off,a=some ⟨q,off,none⟩∧Cs w f q off (bC l):=h.2.imp (λh=>by subst h;exact⟨C,C⟩) id
abbrev PR:=lU×lU
def fa(l:List PR)(i:Nat):List GR:=(l.take i).zipIdx.map λx=>(x.1.1,x.1.2,(x.2:Int))
theorem pA(k:Nat):∀l:List PR,∃r,bC l=bC (l.take k)++r:=λl=>⟨bC (l.drop k),by rw[← bC_app,List.take_append_drop]⟩
theorem MB.take{w:wO}{l:List PR}{c:Nat}(k:Nat)(h:MB w f l a c):MB w f (l.take k) a c:=by
 refine⟨Nat.le_trans (by rw[List.length_take];omega) h.1,h.2.imp (λh=>by rw[h,List.take_nil]) λ⟨b,off,F,G⟩=>⟨b,off,F,λj v D=>G j v ?_⟩⟩;obtain⟨r,J⟩:=pA k l;rw[J,List.getElem?_append_left (List.getElem?_eq_some_iff.1 D).1];exact D
end Go.SP
namespace Go.Proofs.YtplnpgpagkpnmaaGreatDoor
open Go.SW Go.SP Go.RowKit Go.Proofs.Tryz
theorem Kx(w:wO)(f:Fq)(hv:Vl w f)(xb sb:Nat)(ev cv dv:Value)(s:Int×Int×Int)(hX:EE 72 xb sb ev cv dv s w f)(C:lV)(n:Nat)(e:Cn)(ea:oA)(ec:Nat)(hC:C.length=n*6)(hC1:∀v∈C,v.oneCell'=true)(hne:n+e.length+1≤100000)(hEn:Jf w f C n e ea ec)(tx:lU)(t:T1)(a:oA)(c:Nat)(v:Bool)(hs:s.1=0→Pb t=true∧t.bnd∧YE t 0≤1000)(hT:Ae w f t.kids a c) :
  AO prog 24 #[pB xb,.slice ea (n+e.length) ec,S tx,tV t a c,.bool v] w (AF (α:=oA×Nat) (λx=>.slice x.1 (n+e.length+1) x.2) (λ_=>True) (λx=>[λw f=>Jf w f C n ((tx,t)::e) x.1 x.2]) w f):=by
 have K:=AE.lt hX;refine Dq [λw f=>Jf w f C n e ea ec,λw f=>Ae w f t.kids a c] func24 rfl rfl rfl (AR hv ⟨hEn,hT,tQ⟩ ⟨Jf.mono,Ae.mono,tQ⟩)<|Af 20 [0,0] (λb1=>y<|λb2=>y<|λ_=>?_)
 ·
  refine A6 28 rfl rfl (λh1=>?_) (λh1=>?_);refine Aa 3 (λ_=>Cz rfl rfl (λw f d=>Ai rfl Gc ((d.stp.block xb K (λh=>h)).trans hX) rfl)<|Aa 4 (λ_=>A6 34 rfl rfl (λh2=>?_) (λh2=>?_)));refine Aa 2 (λ_=>?_);obtain⟨hs1,hs2,hs3⟩:=hs (by simpa using h2);refine IQ (λw=>AE w xb [pB sb,ev,cv,dv,iV s.1,iV s.2.1,iV s.2.2] 72) (λw f _ L=>(L.stp.block xb K (λh=>h)).trans hX) [0,1] Aj (rd [0,1,2,3,4] (.br 5 (rd [6,7,8] (.br 9 (.br 10 (.rd 11 .fin) .fin) .fin)) (.br 9 (.br 5 (rd [6,7,8] (.br 10 (.rd 11 .fin) .fin)) .fin) .fin))) rfl kR kR kR (λ_ _ _ _ _ h=>h)<|AN 3 (λ_=>CP rfl rfl rfl (λw hK=>Ai rfl Xx hK.2.2 rfl)<|Bh 1 [1] (y<|λ_=>Bj rfl ?_ ?_));refine BV rfl rfl (eC IZ rfl rfl) (λw f d=>HN w f d.vl sb t a c hs1 hs2 hs3 d.f1) (λx=>⟨Ae.mono,tQ⟩) ?_;rintro⟨fa,fc⟩ -;refine Aa 1 (λ_=>AS [0,1] (λw f _ L=>(L.stp.block xb K (λh=>h)).trans hX) rfl (λ_ h=>h)<|AN 3 (λ_=>Ah rfl<|Aa 2 (λb3=>λ_=>AS [1,2] (λw f _ L=>(L.stp.block xb K (λh=>h)).trans hX) rfl (λ_ h=>h) ?_)))
  rotate_left
  refine Ah rfl<|Aa 2 (λb3=>λ_=>AS [1,2] (λw f _ L=>(L.stp.block xb K (λh=>h)).trans hX) rfl (λ_ h=>h)<|Ah rfl<|BV rfl rfl (eC IZ rfl rfl) (λw f d=>HN w f d.vl sb t a c hs1 hs2 hs3 d.f1) (λx=>⟨Ae.mono,tQ⟩) ?_);rintro⟨fa,fc⟩ -;refine Aa 1 (λ_=>AS [1,2] (λw f _ L=>(L.stp.block xb K (λh=>h)).trans hX) rfl (λ_ h=>h)<|AN 3 (λ_=>?_))
  rotate_left
  refine Aa 4 (λ_=>Ja (α:=Nat×Nat×lV) (λx=>ea=some ⟨x.1,x.2.1,none⟩) (λx=>[⟨x.1,x.2.1,x.2.2⟩]) (λx=>[λw f=>Io w f C e x.2.2]) (λw f d=>let ⟨_,b,off,xs,h1,h2,h3⟩:=d.f0;⟨(b,off,xs),h1,(oE h2),AA.mem ⟨h3,tQ⟩⟩) (λx=>Ap.mem ⟨Io.mono,tQ⟩) ?_);rintro⟨O,Q,xs⟩ rfl;refine IF (λw f d=>Io.len hC d.f0) λD=>IF (λw f d=>Io.one' hC1 d.f0) λF=>Ca [0,1] Aj (.rd 1 (.rd 3 (.br 0 (.br 2 (.br 4 (.br 5 (.rd 6 .fin) .fin) .fin) (.br 4 (.br 2 (.br 5 (.rd 6 .fin) .fin) .fin) .fin)) (.br 4 (.br 0 (.br 2 (.br 5 (.rd 6 .fin) .fin) .fin) .fin) .fin)))) rfl kR<|Bh 2 [0] (y<|λ_=>?_)
  ·
   refine Bj rfl ?_ ?_;refine xV rfl rfl N4 λU=>Aa 1 (λ_=>Am [0,1] rfl<|Bj rfl ?_ ?_);refine Rc 0 rfl rfl HQ rfl rfl rfl rfl rfl (news:=xs) (λw f d=>.inr ⟨O,Q,rfl,d.b0⟩) D F (λ_ _=>rfl) oM oM λG J=>Aa 1 (λ_=>Am [0,1] rfl<|Ah rfl<|Aa 2 (λb3=>λ_=>?_))
   rotate_left
   refine Ah rfl<|Aa 2 (λb3=>λ_=>Am [1,2] rfl<|Ah rfl<|Rc 0 rfl rfl HQ rfl rfl rfl rfl rfl (news:=xs) (λw f d=>.inr ⟨O,Q,rfl,d.b0⟩) D F (λ_ _=>rfl) oM oM λG J=>Aa 1 (λ_=>?_))
   rotate_left
   refine Ah rfl<|Aa 2 (λb3=>λ_=>Am [1,2] rfl<|Ah rfl<|xV rfl rfl N4 λU=>Aa 1 (λ_=>Am [1,2] rfl<|Ah rfl<|Rc 0 rfl rfl HQ rfl rfl rfl rfl rfl (news:=xs) (λw f d=>.inr ⟨O,Q,rfl,d.b0⟩) D F (λ_ _=>rfl) oM oM λG J=>Aa 1 (λ_=>?_)))
   all_goals
    exact Am [1,2] rfl<|Ah rfl<|BW 0 0 rfl rfl HQ rfl rfl rfl rfl rfl rfl rfl rfl (λ_ _=>rfl) oM oM λW Y=>Aa 1 (λ_=>Am [1,2] rfl<|AN 1 (λ_=>Bp<|Aa 2 (λ_=>AK (Cy rfl rfl) (λw f d=>let ⟨f2,Z,hF⟩:=U9 d (show Io w f C ((tx,t)::e) ([]++xs++jJ (tx,t) a c) from ⟨a,c,xs,rfl,d.f2,d.f0⟩) (n:=n) (by simp only[List.length_cons];omega) (Nat.succ_pos _);⟨(W,Y),f2,by dsimp only;rw[Nat.zero_add],tQ,Z.exm,⟨hF,tQ⟩⟩))))
  refine Aa 12 (λ_=>Ja (α:=Nat×Nat×lV) (λx=>ea=some ⟨x.1,x.2.1,none⟩) (λx=>[⟨x.1,x.2.1,x.2.2⟩]) (λx=>[λw f=>Io w f C e x.2.2]) (λw f d=>let ⟨_,b,off,xs,h1,h2,h3⟩:=d.f0;⟨(b,off,xs),h1,(oE h2),AA.mem ⟨h3,tQ⟩⟩) (λx=>Ap.mem ⟨Io.mono,tQ⟩) ?_);rintro⟨O,Q,xs⟩ rfl;refine IF (λw f d=>Io.len hC d.f0) λD=>IF (λw f d=>Io.one' hC1 d.f0) λF=>Ca [0,1] Aj (.rd 1 (.rd 3 (.br 0 (.br 2 (.br 4 (.br 5 (.rd 6 .fin) .fin) .fin) (.br 4 (.br 2 (.br 5 (.rd 6 .fin) .fin) .fin) .fin)) (.br 4 (.br 0 (.br 2 (.br 5 (.rd 6 .fin) .fin) .fin) .fin) .fin)))) rfl kR<|Bh 2 [0] (y<|λ_=>?_)
  ·
   refine Bj rfl ?_ ?_;refine xV rfl rfl N4 λU=>Aa 1 (λ_=>Am [0,1] rfl<|Bj rfl ?_ ?_);refine Rc 0 rfl rfl HQ rfl rfl rfl rfl rfl (news:=xs) (λw f d=>.inr ⟨O,Q,rfl,d.b0⟩) D F (λ_ _=>rfl) oM oM λG J=>Aa 1 (λ_=>Am [0,1] rfl<|Ah rfl<|Aa 2 (λb3=>λ_=>?_))
   rotate_left
   refine Ah rfl<|Aa 2 (λb3=>λ_=>Am [1,2] rfl<|Ah rfl<|Rc 0 rfl rfl HQ rfl rfl rfl rfl rfl (news:=xs) (λw f d=>.inr ⟨O,Q,rfl,d.b0⟩) D F (λ_ _=>rfl) oM oM λG J=>Aa 1 (λ_=>?_))
   rotate_left
   refine Ah rfl<|Aa 2 (λb3=>λ_=>Am [1,2] rfl<|Ah rfl<|xV rfl rfl N4 λU=>Aa 1 (λ_=>Am [1,2] rfl<|Ah rfl<|Rc 0 rfl rfl HQ rfl rfl rfl rfl rfl (news:=xs) (λw f d=>.inr ⟨O,Q,rfl,d.b0⟩) D F (λ_ _=>rfl) oM oM λG J=>Aa 1 (λ_=>?_)))
   all_goals
    exact Am [1,2] rfl<|Ah rfl<|BW 0 0 rfl rfl HQ rfl rfl rfl rfl rfl rfl rfl rfl (λ_ _=>rfl) oM oM λW Y=>Aa 1 (λ_=>Am [1,2] rfl<|AN 1 (λ_=>Bp<|Aa 2 (λ_=>AK (Cy rfl rfl) (λw f d=>let ⟨f2,Z,hF⟩:=U9 d (show Io w f C ((tx,t)::e) ([]++xs++jJ (tx,t) a c) from ⟨a,c,xs,rfl,d.f2,d.f0⟩) (n:=n) (by simp only[List.length_cons];omega) (Nat.succ_pos _);⟨(W,Y),f2,by dsimp only;rw[Nat.zero_add],tQ,Z.exm,⟨hF,tQ⟩⟩))))
  all_goals
   refine Ah rfl<|Af 2 [0] (y<|λ_=>AS [1,2] (λw f _ L=>(L.stp.block xb K (λh=>h)).trans hX) rfl (λ_ h=>h)<|AN 1 (λ_=>Bp<|Af 4 [0] (y<|λ_=>B3 rfl rfl (eC R8 rfl rfl) (λw f d=>Iq _ w f d.vl t fa fc (Nat.lt_succ_self _) hs1 hs2 d.f0)<|Aa 10 (λ_=>zD<|Aa 12 (λ_=>?_)))));refine Dl<|Af 9 [0,1] (y<|y<|λ_=>Ja (α:=Nat×Nat×lV) (λx=>ea=some ⟨x.1,x.2.1,none⟩) (λx=>[⟨x.1,x.2.1,x.2.2⟩]) (λx=>[λw f=>Io w f C e x.2.2]) (λw f d=>let ⟨_,b,off,xs,h1,h2,h3⟩:=d.f1;⟨(b,off,xs),h1,(oE h2),AA.mem ⟨h3,tQ⟩⟩) (λx=>Ap.mem ⟨Io.mono,tQ⟩) ?_);rintro⟨O,Q,xs⟩ rfl;refine IF (λw f d=>Io.len hC d.f0) λD=>IF (λw f d=>Io.one' hC1 d.f0) λF=>Ca [0,1,2] Aj (.rd 1 (.rd 3 (.br 0 (.br 2 (.br 4 (.br 5 (.rd 6 .fin) .fin) .fin) (.br 4 (.br 2 (.br 5 (.rd 6 .fin) .fin) .fin) .fin)) (.br 4 (.br 0 (.br 2 (.br 5 (.rd 6 .fin) .fin) .fin) .fin) .fin)))) rfl kR<|Bh 2 [1] (y<|λ_=>?_)
   ·
    refine Bj rfl ?_ ?_;refine xV rfl rfl N4 λU=>Aa 1 (λ_=>Am [0,1,2] rfl<|Bj rfl ?_ ?_);refine Rc 0 rfl rfl HQ rfl rfl rfl rfl rfl (news:=xs) (λw f d=>.inr ⟨O,Q,rfl,d.b0⟩) D F (λ_ _=>rfl) oM oM λG J=>Aa 1 (λ_=>Am [0,1,2] rfl<|Ah rfl<|Aa 2 (λb4=>λ_=>?_))
    rotate_left
    refine Ah rfl<|Aa 2 (λb4=>λ_=>Am [1,2,3] rfl<|Ah rfl<|Rc 0 rfl rfl HQ rfl rfl rfl rfl rfl (news:=xs) (λw f d=>.inr ⟨O,Q,rfl,d.b0⟩) D F (λ_ _=>rfl) oM oM λG J=>Aa 1 (λ_=>?_))
    rotate_left
    refine Ah rfl<|Aa 2 (λb4=>λ_=>Am [1,2,3] rfl<|Ah rfl<|xV rfl rfl N4 λU=>Aa 1 (λ_=>Am [1,2,3] rfl<|Ah rfl<|Rc 0 rfl rfl HQ rfl rfl rfl rfl rfl (news:=xs) (λw f d=>.inr ⟨O,Q,rfl,d.b0⟩) D F (λ_ _=>rfl) oM oM λG J=>Aa 1 (λ_=>?_)))
    all_goals
     exact Am [1,2,3] rfl<|Ah rfl<|BW 0 0 rfl rfl HQ rfl rfl rfl rfl rfl rfl rfl rfl (λ_ _=>rfl) oM oM λW Y=>Aa 1 (λ_=>Am [1,2,3] rfl<|AN 1 (λ_=>Bp<|Aa 2 (λ_=>AK (Cy rfl rfl) (λw f d=>let ⟨f2,Z,hF⟩:=U9 d (show Io w f C ((tx,t)::e) ([]++xs++jJ (tx,t) fa fc) from ⟨fa,fc,xs,rfl,d.f1,d.f0⟩) (n:=n) (by simp only[List.length_cons];omega) (Nat.succ_pos _);⟨(W,Y),f2,by dsimp only;rw[Nat.zero_add],tQ,Z.exm,⟨hF,tQ⟩⟩))))

theorem yT(w:wO)(f:Fq)(h:Vl w f)(D:Nat)(ln co nm:Int)(tx:lU)(k:Nd)(F:oA)(nc:Nat)(ex:Value) :
  AO prog 65 #[pB D,.agg #[iV 1,iV ln,iV co,S tx,iV nm,.slice F k.len nc],ex] w (AF (α:=Unit) (λ_=>tV (.con [105,110,116] .nil) none 0) (λ_=>True) (λ_=>[]) w f):=by
 exact Dq [] func65 C C C (AR h tQ tQ)<|Af 30 [1,1] (λb1=>λb2=>y<|y<|λ_=>B3 C C (eC CM C C) (λw f d=>Bq w f d.vl [105,110,116] 0 none 0)<|Af 6 [0] (y<|λ_=>VS (λw f d=>A3 C (Ac C DU d.k0 C)) C))
theorem vH(w:wO)(f:Fq)(hv:Vl w f)(G sb:Nat)(ev cv dv:Value)(K:EE 72 G sb ev cv dv (0,0,0) w f)(C:lV)(n:Nat)(e:Cn)(L:oA)(U:Nat)(hC:C.length=n*6)(hC1:∀v∈C,v.oneCell'=true)(hne:n+e.length≤100000)(D:IX e)(hEn:Jf w f C n e L U)(ln co nm:Int)(tx:lU)(k:Nd)(na:oA)(nc:Nat)(t:T1)(hl:Bo e tx=some t) :
  AO prog 65 #[pB G,.agg #[iV 5,iV ln,iV co,S tx,iV nm,.slice na k.len nc],.slice L (n+e.length) U] w (AF (α:=T1×oA×Nat) (λx=>tV x.1 x.2.1 x.2.2) (λx=>x.1=t) (λx=>[λw f=>Ae w f x.1.kids x.2.1 x.2.2]) w f):=by
 have F:=AE.lt K;obtain⟨i,J,hi2⟩:=JZ hl;have hil:=(List.getElem?_eq_some_iff.1 J).1;obtain⟨W,Y,hb⟩:=D _ (List.mem_of_getElem? J);have Z:YE t 0≤1000:=OP W▸Y;refine Dq [λw f=>Jf w f C n e L U] func65 rfl rfl rfl (AR hv ⟨hEn,tQ⟩ ⟨Jf.mono,tQ⟩)<|Af 66 [1,1] (λb1=>λb2=>y<|y<|aI ⟨oM,oM⟩<|λ_=>?_);refine D6 (α:=Int×Nat) (λx=>i+1-x.2) (λx=>x.1=((n+e.length:Nat):Int)-1-x.2∧x.2≤i) (λx=>(E5 0 (pB G) 2 (.slice L (n+e.length) U) 4 (pB b1) 6 (pB b2) 8 (iV x.1))) (λx=>X0 w f) (λx=>[⟨b2,zT,75,true⟩,⟨b1,Kd 5 ln co tx nm na k.len nc,58,true⟩]) (λx=>[]) (λx=>[]) (λx=>[λw f=>Jf w f C n e L U]) (((n+e.length:Nat):Int)-1,0) ⟨(Int.sub_zero _).symm,Nat.zero_le _⟩ lE (λw f d=>d.less sR sR nE (mR [0])) ?_;rintro⟨z,j⟩ ⟨hz,hj⟩;dsimp only at hz hj ⊢;refine Aa 7 (λ_=>?_)
 ·
  refine A6 63 rfl rfl (λh1=>?_) (λh1=>?_);refine Aa 7 (λ_=>?_);obtain⟨p,rfl⟩:∃p:Nat,z=(p:Int):=⟨z.toNat,by have:=dT h1;omega⟩;obtain⟨O,Q⟩:∃O,e[j]?=some O:=⟨_,List.getElem?_eq_getElem oM⟩;have hp9:p=n+(e.length-1-j):=oM;refine Ja (α:=Nat×Nat×oA×Nat) (λx=>L=some ⟨x.1,x.2.1,none⟩) (λx=>[⟨x.1,x.2.1+p*6,jJ O x.2.2.1 x.2.2.2⟩]) (λx=>[λw f=>Ae w f O.2.kids x.2.2.1 x.2.2.2]) (λw f d=>let ⟨b,off,ka,kc,h1,h2,h3⟩:=Jf.get hC d.f0 Q hp9;⟨(b,off,ka,kc),h1,(oE h2),AA.mem ⟨h3,tQ⟩⟩) (λx=>Ap.mem ⟨Ae.mono,tQ⟩) ?_;rintro⟨eb,eo,ka,kc⟩ rfl;refine Ca [0,1] Aj (rd [0,1,2,3,4,5,6,7] .fin) rfl kR<|Bh 8 [100,0,1] (aI oM<|y2<|y<|λ_=>Bp<|Aa 1 (λ_=>A6 73 rfl rfl (λh2=>?_) (λh2=>?_)));have hj1:j+1≤i:=by rcases Nat.lt_or_ge j i with h9|h9;exact h9;exfalso;have h7:j=i:=oM;subst h7;rw[J] at Q;cases Q;simp at h2
  exact Aa 10 (aI ⟨oM,oM⟩<|λ_=>C0 (((p:Int)-1,j+1)) (show i+1-(j+1)<i+1-j by omega) ⟨show (p:Int)-1=((n+e.length:Nat):Int)-1-(j+1:Nat) by omega,show j+1≤i from hj1⟩ lE (λw f d=>⟨_,d.less sR sR nE (mR [1])⟩));obtain rfl:O=(tx,t):=by rcases Nat.lt_or_ge j i with h9|h9;exfalso;have h8:=hi2 j O h9 Q;simp[h8] at h2;have h7:j=i:=oM;subst h7;rw[J] at Q;cases Q;rfl
  refine Aa 4 (λ_=>IQ (λw=>AE w G [pB sb,ev,cv,dv,iV 0,iV 0,iV 0] 72) (λw f _ D=>(D.stp.block G F (λh=>h)).trans K) [0,1] Aj (rd [0,1,2,3,4,5,6,7,8] (.br 9 (rd [10,11,12] (.br 13 (.br 14 (.rd 15 .fin) .fin) .fin)) (.br 13 (.br 9 (rd [10,11,12] (.br 14 (.rd 15 .fin) .fin)) .fin) .fin))) rfl kR kR kR (λ_ _ _ _ _ h=>h)<|AN 3 (λ_=>CP rfl rfl rfl (λw hK=>Ai rfl Xx hK.2.2 rfl)<|Bh 5 [100,1] (aI oM<|y2<|λ_=>Bj rfl ?_ ?_)));refine BV rfl rfl (eC IZ rfl rfl) (λw f d=>HN w f d.vl sb t ka kc W hb Z d.f0) (λx=>⟨Ae.mono,tQ⟩) ?_;rintro⟨fa,fc⟩ -;refine Aa 1 (λ_=>AS [0,1] (λw f _ D=>(D.stp.block G F (λh=>h)).trans K) rfl (λ_ h=>h)<|AN 3 (λ_=>Ah rfl<|Aa 2 (λb3=>λ_=>AS [1,2] (λw f _ D=>(D.stp.block G F (λh=>h)).trans K) rfl (λ_ h=>h) ?_)))
  rotate_left
  refine Ah rfl<|Aa 2 (λb3=>λ_=>AS [1,2] (λw f _ D=>(D.stp.block G F (λh=>h)).trans K) rfl (λ_ h=>h)<|Ah rfl<|BV rfl rfl (eC IZ rfl rfl) (λw f d=>HN w f d.vl sb t ka kc W hb Z d.f0) (λx=>⟨Ae.mono,tQ⟩) ?_);rintro⟨fa,fc⟩ -;refine Aa 1 (λ_=>AS [1,2] (λw f _ D=>(D.stp.block G F (λh=>h)).trans K) rfl (λ_ h=>h)<|AN 3 (λ_=>?_))
  rotate_left
  exact absurd (dF h1) oM
  all_goals
   refine Ah rfl<|Af 2 [0] (y<|λ_=>AS [1,2] (λw f _ D=>(D.stp.block G F (λh=>h)).trans K) rfl (λ_ h=>h)<|AN 1 (λ_=>Bp<|Af 14 [0] (y<|λ_=>B3 rfl rfl (eC R8 rfl rfl) (λw f d=>Iq _ w f d.vl t fa fc (Nat.lt_succ_self _) W hb d.f0)<|Aa 15 (λ_=>zD<|Aa 12 (λ_=>?_)))));refine Dl<|Aa 3 (λ_=>Ca [0,2] Aj (rd [0,1,2,3] (.br 4 (.br 5 (.br 6 .fin .fin) .fin) .fin)) rfl kR<|Bh 4 [0] (y<|λ_=>Ah rfl<|B3 rfl rfl (eC lH rfl rfl) (λw f d=>Sg w f d.vl G)<|Aa 1 (λ_=>Am [0,2] rfl<|Ah rfl<|BV rfl rfl (eC K6 rfl rfl) (λw f d=>Fe _ w f d.vl [] none 0 .nil none 0 (Nat.zero_le _) (Nat.zero_le _) ⟨Nat.zero_le _,.inl rfl⟩ (Ae.nil _ _ _ _) t fa fc (Nat.lt_succ_self _) hb d.f0) (λx=>⟨Ae.mono,tQ⟩) ?_)));rintro⟨y3,a2,c2⟩ hy3;dsimp only at hy3 ⊢;exact Aa 1 (λ_=>Am [0,2] rfl<|Ah rfl<|Af 2 [1] (y<|λ_=>Am [0,2] rfl<|Bp<|Aa 4 (λ_=>So<|Aa 4 (λ_=>AK (λw f d=>A3 rfl (Ac rfl DU d.k1 rfl)) (λw f d=>⟨(y3,a2,c2),f,rfl,hy3 W,d.exm,⟨d.f0,tQ⟩⟩)))))

theorem oG(m:Nat)(hxp:XpF prog 23 72 m)(w:wO)(f:Fq)(hv:Vl w f)(d sb:Nat)(ev F G:Value)(hX:EE 72 d sb ev F G (0,0,0) w f)(hf:f d=0)(C:lV)(n:Nat)(e:Cn)(U:oA)(W:Nat)(hC:C.length=n*6)(hC1:∀v∈C,v.oneCell'=true)(hne:n+e.length+m<100000)(hE:IX e)(hEn:Jf w f C n e U W)(ln co nm:Int)(tx:lU)(k:Nd)(J:oA)(nc:Nat)(q:Except Er Ty)(hsz:k.size≤1000000)(hq0:YU m e k=some q)(hN:AJ w f k J nc) :
  AO prog 65 #[pB d,.agg #[iV 13,iV ln,iV co,S tx,iV nm,.slice J k.len nc],.slice U (n+e.length) W] w (CY (α:=T1×oA×Nat) (λx=>tV x.1 x.2.1 x.2.2) (λx=>∀t,q.map (T1.con [116,117,112,108,101])=.ok t→x.1=t) (λb=>b=d) (λ_=>EE 72 d sb ev F G (KY q)) (λx=>[λw f=>Ae w f x.1.kids x.2.1 x.2.2]) w f):=by
 have hkl:=Nd.len_le k;refine Hm (X:=⟨λb=>b=d,λb=>b=d,EE 72 d sb ev F G (0,0,0),w,f⟩) (H:=[]) (R:=[]) (B:=[]) (Fs:=[λw f=>Jf w f C n e U W,λw f=>AJ w f k J nc]) (f:=f) func65 rfl rfl rfl (LX (M:=λb=>b=d) (I:=EE 72 d sb ev F G (0,0,0)) hv hX EE.stab (λb hb=>by cases hb;exact⟨AE.lt hX,hf⟩) ⟨hEn,hN,tQ⟩ ⟨Jf.mono,AJ.mono,tQ⟩)<|Af 124 [1,1] (λb1=>λb2=>y<|y<|λ_=>KR 75 4 ?_);refine D6 (α:=Nat×Nd×Ty×lV×oA×Nat×Int×Int×Int) (λx=>x.2.1.len) (λx=>x.1+x.2.1.len=k.len∧x.2.2.1.len=x.1∧x.2.1.size≤k.size∧Za m e x.2.2.1 x.2.1 q x.2.2.2.2.2.2) (λx=>(E7 0 (pB d) 2 (.slice U (n+e.length) W) 4 (pB b1) 6 (pB b2) 7 (.slice J k.len nc) 31 (.slice x.2.2.2.2.1 x.1 x.2.2.2.2.2.1) 32 (iV (x.1:Int)))) (λx=>⟨λb=>b=d,λb=>b=d,EE 72 d sb ev F G x.2.2.2.2.2.2,w,f⟩) (λx=>[⟨b2,zT,75,true⟩,⟨b1,Kd 13 ln co tx nm J k.len nc,58,true⟩]) (λx=>[⟨75,4,x.2.2.2.2.1,x.2.2.2.2.2.1,x.1,x.2.2.2.1⟩]) (λx=>[]) (λx=>[λw f=>Bc w f J x.1 x.2.1,λw f=>AU w f x.2.2.1 x.2.2.2.1,λw f=>Jf w f C n e U W]) (0,k,.nil,[],none,0,0,0,0) ⟨Nat.zero_add _,rfl,Nat.le_refl _,Za.start hq0⟩ lE (λw f hM=>hM.more (B':=[]) (F':=[λw f=>Bc w f J 0 k,λw f=>AU w f .nil []]) nE (AA.mem ⟨AJ.at hM.f1,rfl,tQ⟩) (Ap.mem ⟨Bc.mono,AU.mono,tQ⟩) |>.less sR sR nE (mR [0,1,2])) ?_;rintro⟨i,r,K,xs,ra,rc,s⟩ ⟨hi,D,hs,L⟩;dsimp only at hi D hs L ⊢;refine Aa 9 (λ_=>A6 381 rfl rfl (λY=>?_) (λY=>?_));refine Aa 5 (λ_=>?_);have hil:i<k.len:=by have:=dT Y;omega
 obtain⟨Z,ln2,co2,tx2,nm2,k2,r,rfl⟩:=Nd.cases1 r oM;have hi2:i+(r.len+1)=k.len:=hi;refine H4 0 rfl ?_;rintro⟨eb,eo,ka,kc⟩ rfl;refine Af 8 [100,0] (aI oM<|y2<|λ_=>?_);rcases L with ⟨rfl,q1,hq1,hqq⟩|⟨hs4,er,hqe,hse⟩
 obtain⟨r1,hr1⟩:=zH hq1;refine JK (XX:=λ_ _=>False) rfl rfl (eC J0 rfl rfl) (λw f hM=>(hxp w f hM.vl d sb ev F G hM.res (hM.mi d rfl).2.1 C n e U W hC hC1 (Nat.le_of_lt hne) hE hM.f4 Z ln2 co2 nm2 tx2 k2 ka kc r1 (by have h9:k2.size+r.size+1≤_:=hs;omega) hr1 hM.f0).retP) (λ_=>EE.stab) (λ_=>⟨Ae.mono,tQ⟩) (λ_ _ _ _ _ h=>h.elim) ?_;rintro⟨t2,a2,c2⟩ hq2;dsimp only at hq2 ⊢;exact Aa 1 (λb3=>λ_=>BW 0 0 rfl rfl P2 rfl rfl rfl rfl rfl rfl rfl rfl (λ_ _=>rfl) oM oM λO Q=>Aa 9 (aI ⟨oM,oM⟩<|λ_=>C0 ((i+1,r,K.snoc t2,xs++tC t2 a2 c2,O,Q,KY r1)) (show r.len<r.len+1 from Nat.lt_succ_self _) ⟨show i+1+r.len=_ by omega,show (K.snoc t2).len=i+1 by rw[Ty.len_snoc,D],show r.size≤_ by have h9:k2.size+r.size+1≤_:=hs;omega,Za.next hq1 hqq hr1 hq2⟩ lE (λw f hM=>⟨_,(hM.more (B':=[]) (F':=[λw f=>AU w f (K.snoc t2) (xs++tC t2 a2 c2)]) nE (AA.mem ⟨AU.snoc hM.f0 hM.f4,tQ⟩) (Ap.mem ⟨AU.mono,tQ⟩)).less (.cons _ sR) sR nE (mR [3,0,6])⟩)));obtain⟨s1,s2,s3⟩:=s;refine JK (XX:=λ_ _=>False) rfl rfl (eC J0 rfl rfl) (λw f hM=>(Xh w f hM.vl d sb ev F G s1 s2 s3 (by rw[show s1=4 from hs4];decide) hM.res (hM.mi d rfl).2.1 Z ln2 co2 nm2 tx2 _ _).retP) (λ_=>EE.stab) (λ_=>trivial) (λ_ _ _ _ _ h=>h.elim) ?_;rintro⟨⟩ -;exact Cj (λw f=>Ae w f (T1.var 0).kids none 0) (λw f hM=>Ae.nil _ _ _ _) Ae.mono<|Aa 1 (λb3=>λ_=>BW 0 0 rfl rfl P2 rfl rfl rfl rfl rfl rfl rfl rfl (λ_ _=>rfl) oM oM λO Q=>Aa 9 (aI ⟨oM,oM⟩<|λ_=>C0 ((i+1,r,K.snoc (.var 0),xs++tC (.var 0) none 0,O,Q,s1,s2,s3)) (show r.len<r.len+1 from Nat.lt_succ_self _) ⟨show i+1+r.len=_ by omega,show (K.snoc (.var 0)).len=i+1 by rw[Ty.len_snoc,D],show r.size≤_ by have h9:k2.size+r.size+1≤_:=hs;omega,Za.skip hs4 er hqe hse⟩ lE (λw f hM=>⟨_,(hM.more (B':=[]) (F':=[λw f=>AU w f (K.snoc (.var 0)) (xs++tC (.var 0) none 0)]) nE (AA.mem ⟨AU.snoc hM.f0 hM.f4,tQ⟩) (Ap.mem ⟨AU.mono,tQ⟩)).less (.cons _ sR) sR nE (mR [3,0,6])⟩)));refine Aa 3 (λ_=>Dl<|Af 16 [1] (y<|λ_=>B3 rfl rfl (eC bL rfl rfl) (λw f hM=>P7 w f hM.vl [116,117,112,108,101] _ _ _)<|Af 6 [0] (y<|λ_=>?_)));obtain rfl:r=.nil:=Nd.len0 (by have:=dF Y;omega);obtain⟨hs9,hd9⟩:=Za.fin L;subst D;exact AK (λw f hM=>A3 rfl (Ac rfl DU hM.k0 rfl)) (λw f hM=>let ⟨f2,hM2,hF⟩:=El hM hM.f1;⟨(.con [116,117,112,108,101] K,ra,rc),f2,rfl,(λt ht=>let ⟨ts,Y,h2⟩:=yM ht;by rw[h2,hd9 ts Y]),hM2.exm,(by rw[hs9];exact hM2.res),⟨hF,tQ⟩⟩)
theorem xB(m:Nat)(hxp:XpF prog 23 72 m)(w:wO)(f:Fq)(hv:Vl w f)(D sb:Nat)(ev K L:Value)(hX:EE 72 D sb ev K L (0,0,0) w f)(hf:f D=0)(C:lV)(n:Nat)(e:Cn)(ea:oA)(ec:Nat)(hC:C.length=n*6)(F:∀v∈C,v.oneCell'=true)(hne:n+e.length+m<100000)(hE:IX e)(hEn:Jf w f C n e ea ec)(ln co nm:Int)(tx:lU)(htx:tx≠[95])(na:oA)(nc:Nat)(O Q U:Int)(W:lU)(n1:Int)(k1:Nd)(o2 l2 c2:Int)(x2:lU)(n2:Int)(k2:Nd)(G:(Nd.cons O Q U W n1 k1 (.cons o2 l2 c2 x2 n2 k2 .nil)).size≤1000000)(r:Except Er T1)(hr:(∃er,Gf m e O Q U W k1=some (.error er)∧r=.error er)∨∃t,Gf m e O Q U W k1=some (.ok t)∧Gf m ((tx,t)::e) o2 l2 c2 x2 k2=some r)(hN:AJ w f (.cons O Q U W n1 k1 (.cons o2 l2 c2 x2 n2 k2 .nil)) na nc) :
  AO prog 65 #[pB D,.agg #[iV 9,iV ln,iV co,S tx,iV nm,.slice na 2 nc],.slice ea (n+e.length) ec] w (CY (α:=T1×oA×Nat) (λx=>tV x.1 x.2.1 x.2.2) (λx=>∀t,r=.ok t→x.1=t) (λb=>b=D) (λ_=>EE 72 D sb ev K L (KY r)) (λx=>[λw f=>Ae w f x.1.kids x.2.1 x.2.2]) w f):=by
 refine Hm (X:=⟨λb=>b=D,λb=>b=D,EE 72 D sb ev K L (0,0,0),w,f⟩) (H:=[]) (R:=[]) (B:=[]) (Fs:=[λw f=>Jf w f C n e ea ec,λw f=>AJ w f (.cons O Q U W n1 k1 (.cons o2 l2 c2 x2 n2 k2 .nil)) na nc]) (f:=f) func65 rfl rfl rfl (LX (M:=λb=>b=D) (I:=EE 72 D sb ev K L (0,0,0)) hv hX EE.stab (λb hb=>by cases hb;exact⟨AE.lt hX,hf⟩) ⟨hEn,hN,tQ⟩ ⟨Jf.mono,AJ.mono,tQ⟩)<|Af 85 [1,1] (λb1=>λb2=>y<|y<|λ_=>mna 1 rfl<|H4 0 rfl ?_);rintro⟨eb,eo,Y,Z⟩ rfl;refine H4 1 rfl ?_;rintro⟨eb2,eo2,ka2,kc2⟩ h44;obtain⟨rfl,rfl⟩:eb=eb2∧eo=eo2:=by cases h44;exact⟨rfl,rfl⟩
 refine Af 6 [101,0] (aI oM<|y2<|λ_=>?_);rcases hr with ⟨⟨l9,o9,e9⟩,J,rfl⟩|⟨t1,J,hr2⟩
 refine JK (XX:=λ_ _=>False) rfl rfl (eC J0 rfl rfl) (λw f d=>(hxp w f d.vl D sb ev K L d.res (d.mi D rfl).2.1 C n e ea ec hC F (Nat.le_of_lt hne) hE d.f5 O Q U n1 W k1 Y Z _ (by simp only[Nd.size] at G;omega) J d.f2).retP) (λ_=>EE.stab) (λ_=>⟨Ae.mono,tQ⟩) (λ_ _ _ _ _ h=>h.elim) ?_;rintro⟨t,xa,xc⟩ hq2;dsimp only at hq2 ⊢;have he4:e9=4:=GX m J;refine Af 12 [0,2] (λb3=>y<|y<|λ_=>A6 283 rfl rfl (λh1=>?_) (λh1=>?_));refine Aa 1 (λ_=>Ca [0,1,2] Aj (rd [0,1,2,3,4,5,6,7] (.br 8 (.br 9 (.rd 10 .fin) .fin) .fin)) rfl kR<|Bh 8 [2,0,101,0] (y<|y<|aI oM<|y2<|λ_=>Ah rfl<|BV rfl rfl (eC Mj rfl rfl) (λw f d=>FK _ w f d.vl O Q U n1 W k1 Y Z (Nat.lt_succ_self _) (by simp only[Nd.size] at G;omega) d.f3) (λx=>trivial) ?_));rintro bv -;refine Aa 1 (λ_=>Am [0,1,2] rfl<|Ah rfl<|BV rfl rfl (eC Uw rfl rfl) (λw f d=>Kx w f d.vl D sb ev K L (e9,l9,o9) d.res C n e ea ec hC F oM d.f6 tx t xa xc bv (λh=>absurd (he4.symm.trans h) dC) d.f0) (λx=>⟨Jf.mono,tQ⟩) ?_);rintro⟨ra,rc⟩ -;refine Aa 1 (λ_=>Am [0,1,2] rfl<|AN 1 (λ_=>Bp<|Af 8 [100,0] (aI oM<|y2<|λ_=>JK (XX:=λ_ _=>False) rfl rfl (eC J0 rfl rfl) (λw f d=>(Xh w f d.vl D sb ev K L e9 l9 o9 (by rw[he4];decide) d.res (d.mi D rfl).2.1 o2 l2 c2 n2 x2 _ _).retP) (λ_=>EE.stab) (λ_=>trivial) (λ_ _ _ _ _ h=>h.elim) ?_)));rintro⟨⟩ -;exact Cj (λw f=>Ae w f (T1.var 0).kids none 0) (λw f d=>Ae.nil _ _ _ _) Ae.mono<|Af 6 [1] (y<|λ_=>AK (λw f d=>A3 rfl (Ac rfl DU d.k1 rfl)) (λw f d=>⟨(.var 0,none,0),f,rfl,(λt ht=>by cases ht),d.exm,d.res,⟨d.f0,tQ⟩⟩));exact absurd (by simpa using h1) htx;refine JK (XX:=λ_ _=>False) rfl rfl (eC J0 rfl rfl) (λw f d=>(hxp w f d.vl D sb ev K L d.res (d.mi D rfl).2.1 C n e ea ec hC F (Nat.le_of_lt hne) hE d.f5 O Q U n1 W k1 Y Z _ (by simp only[Nd.size] at G;omega) J d.f2).retP) (λ_=>EE.stab) (λ_=>⟨Ae.mono,tQ⟩) (λ_ _ _ _ _ h=>h.elim) ?_;rintro⟨t,xa,xc⟩ hq2;dsimp only at hq2 ⊢;obtain rfl:t1=t:=(hq2 t1 rfl).symm;obtain⟨hg1,hz1,hb1⟩:=Fg m hE J;refine Af 12 [0,2] (λb3=>y<|y<|λ_=>A6 283 rfl rfl (λh1=>?_) (λh1=>?_));refine Aa 1 (λ_=>Ca [0,1,2] Aj (rd [0,1,2,3,4,5,6,7] (.br 8 (.br 9 (.rd 10 .fin) .fin) .fin)) rfl kR<|Bh 8 [2,0,101,0] (y<|y<|aI oM<|y2<|λ_=>Ah rfl<|BV rfl rfl (eC Mj rfl rfl) (λw f d=>FK _ w f d.vl O Q U n1 W k1 Y Z (Nat.lt_succ_self _) (by simp only[Nd.size] at G;omega) d.f3) (λx=>trivial) ?_));rintro bv -;refine Aa 1 (λ_=>Am [0,1,2] rfl<|Ah rfl<|BV rfl rfl (eC Uw rfl rfl) (λw f d=>Kx w f d.vl D sb ev K L (0,0,0) d.res C n e ea ec hC F oM d.f6 tx t1 xa xc bv (λ_=>⟨hg1,hb1,OP hg1▸hz1⟩) d.f0) (λx=>⟨Jf.mono,tQ⟩) ?_);rintro⟨ra,rc⟩ -
 refine Aa 1 (λ_=>Am [0,1,2] rfl<|AN 1 (λ_=>Bp<|Af 8 [100,0] (aI oM<|y2<|λ_=>JK (XX:=λ_ _=>False) rfl rfl (eC J0 rfl rfl) (λw f d=>(hxp w f d.vl D sb ev K L d.res (d.mi D rfl).2.1 C n ((tx,t1)::e) ra rc hC F (by simp only[List.length_cons];omega) (hE.cons hg1 hz1 hb1) d.f0 o2 l2 c2 n2 x2 k2 ka2 kc2 r (by simp only[Nd.size] at G;omega) hr2 d.f2).retP) (λ_=>EE.stab) (λ_=>⟨Ae.mono,tQ⟩) (λ_ _ _ _ _ h=>h.elim) ?_)));rintro⟨u,ua,uc⟩ hq3;dsimp only at hq3 ⊢;exact Af 6 [1] (y<|λ_=>AK (λw f d=>A3 rfl (Ac rfl DU d.k1 rfl)) (λw f d=>⟨(u,ua,uc),f,rfl,hq3,d.exm,d.res,⟨d.f0,tQ⟩⟩));exact absurd (by simpa using h1) htx
theorem UY(m:Nat)(J:XpF prog 23 72 m):BaF prog 65 72 m:=λw f Q G sb ev Z dv d hf C n e U W hC D K hE F op ln co nm tx k Y nc r L hr hN=>by
 rcases QS hr with ⟨rfl,rfl⟩|⟨rfl,t,hl,rfl⟩|rfl|rfl
 · exact (yT w f Q G ln co nm tx k Y nc (.slice U (n+e.length) W)).mono λv w2 ⟨_,f2,h1,_,O,_⟩=>⟨(.con [105,110,116] .nil,none,0),f2,h1,(λt ht=>by cases ht;rfl),O.mono (λ_ h=>h.elim),(O.stp.block G (AE.lt d) (λh=>h)).trans d,⟨Ae.nil _ _ _ _,tQ⟩⟩
 · exact (vH w f Q G sb ev Z dv d C n e U W hC D oM hE F ln co nm tx k Y nc t hl).mono λv w2 ⟨x,f2,h1,h2,O,h4⟩=>⟨x,f2,h1,(λt ht=>by cases ht;exact h2),O.mono (λ_ h=>h.elim),(O.stp.block G (AE.lt d) (λh=>h)).trans d,h4⟩
 ·
  obtain⟨q,hq,rfl,_⟩:=OO hr;rw[oB];exact oG m J w f Q G sb ev Z dv d hf C n e U W hC D K hE F ln co nm tx k Y nc q L hq hN
 ·
  obtain⟨o1,l1,c1,x1,n1,k1,o2,l2,c2,x2,n2,k2,rfl,htx,hh⟩:=NJ hr;exact xB m J w f Q G sb ev Z dv d hf C n e U W hC D K hE F ln co nm tx htx Y nc o1 l1 c1 x1 n1 k1 o2 l2 c2 x2 n2 k2 L r hh hN
theorem LP:∀m,XpF prog 23 72 m
 |0=>λw f J K sb ev L O Q U C n e W Y Z d h hE D op ln co nm tx k na nc r F G=>by cases G
 |m+1=>YM m (UY m (LP m))
theorem UI(w:wO)(f:Fq)(hv:Vl w f)(oa:oA)(oc:Nat)(l:List MJ)(J:lV)(hP:HG 82 oa oc l.length J w f)(hL:Kf w f l J)(hf:∀b,Ue oa b→f b=0)(Z:RD l)(G:List lU)(sa:oA)(sc:Nat)(hbig:l.length+G.length≤1000)(hN:IJ sC w f G sa sc)(D:Ty)(O:oA)(U:Nat)(hy:1≤D.len∧D.len≤10)(hyb:D.bnd)(hY:Ae w f D O U) :
  AO prog 62 #[.slice oa l.length oc,.slice sa G.length sc,.slice O D.len U] w (NG (α:=oA×Nat×List MJ×lV) (λx=>.slice x.1 x.2.2.1.length x.2.1) (λx=>x.2.2.1.length=l.length+G.length∧RD x.2.2.1) (Ue oa) (λx=>Ue x.1) (λx=>HG 82 x.1 x.2.1 x.2.2.1.length x.2.2.2) (λx=>[λw f=>Kf w f x.2.2.1 x.2.2.2]) w f):=by
 refine Hm (X:=⟨Ue oa,Ue oa,HG 82 oa oc l.length J,w,f⟩) (H:=[]) (R:=[]) (B:=[]) (Fs:=[λw f=>Kf w f l J,λw f=>IJ sC w f G sa sc,λw f=>Ae w f D O U]) (f:=f) func62 C C C (LX (M:=Ue oa) hv hP HG.stab (λb Y=>⟨BO.lt hP Y,hf b Y⟩) ⟨hL,hN,hY,tQ⟩ ⟨Kf.mono,IJ.mono,Ae.mono,tQ⟩)<|Aa 12 (λ_=>?_);refine D6 (α:=Nat×List MJ×lV×oA×Nat) (λx=>G.length-x.1) (λx=>x.1≤G.length∧x.2.1.length=l.length+x.1∧RD x.2.1) (λx=>(E4 0 (.slice x.2.2.2.1 x.2.1.length x.2.2.2.2) 1 (.slice sa G.length sc) 2 (.slice O D.len U) 7 (iV (x.1:Int)))) (λx=>⟨Ue oa,Ue x.2.2.2.1,HG 82 x.2.2.2.1 x.2.2.2.2 x.2.1.length x.2.2.1,w,f⟩) (λx=>[]) (λx=>[]) (λx=>[]) (λx=>[λw f=>Kf w f x.2.1 x.2.2.1,λw f=>IJ sC w f G sa sc,λw f=>Ae w f D O U]) (0,l,J,oa,oc) ⟨Nat.zero_le _,C,Z⟩ lE (λw f F=>F.less sR sR nE (mR [0,1,2])) ?_;rintro⟨i,K,xs,oa2,oc2⟩ ⟨hi,hln,hB⟩;dsimp only at hi hln hB ⊢;refine Aa 9 (λ_=>A6 11 C C (λL=>?_) (λL=>?_));refine Aa 5 (λ_=>?_);have hil:i<G.length:=by have:=dT L;omega
 obtain⟨v0,hx⟩:∃v,G[i]?=some v:=⟨_,List.getElem?_eq_getElem hil⟩;refine Ja (α:=Nat×Nat) (λx=>sa=some ⟨x.1,x.2,none⟩) (λx=>[⟨x.1,x.2+i*1,[S v0]⟩]) (λx=>[]) (λw f F=>let ⟨b,off,L,h2⟩:=IJ.get 1 (λ_=>C) F.f1 hx;⟨(b,off),L,(oE h2),λ_ h=>by cases h⟩) (λx=>Ap.mem tQ) ?_;rintro⟨b,off⟩ rfl;refine Ca [] Aj (rd [0,1,2,3,4,5,6,7,8] (.br 9 (.rd 10 (.br 11 (.br 12 (.rd 13 .fin) .fin) .fin)) .fin)) C kR<|Bh 9 [100,0] (aI oM<|y2<|aI ⟨oM,oM⟩<|λ_=>Ah C<|BV C C (eC mU C C) (λw f F=>Re w f F.vl D O U hy hyb F.f2) (λx=>⟨Ae.mono,tQ⟩) ?_);rintro⟨t,ta,tc⟩ W;dsimp only at W ⊢;refine Aa 1 (λ_=>Am [] C<|AN 1 (λ_=>Ah C<|Aa 2 (λb1=>λ_=>Am [] C<|Ah C<|ZP (MI':=Ue) (I':=λa' c'=>HG 82 a' c' (K.length+1) (xs++gK (v0,(D.len:Int)-1,t) ta tc)) 0 C C qap79 C C C C C C C oM oM (λw f h=>h) (λb h=>h) (λ_ _ h=>.inr h) (λw f w2 a2 c2 h F hr hG=>hr) (λ_ _=>HG.stab) λoa3 oc3=>Aa 1 (λ_=>Am [] C ?_))));exact AN 1 (λ_=>Bp<|Aa 7 (aI ⟨oM,oM⟩<|λ_=>C0 ((i+1,K++[(v0,(D.len:Int)-1,t)],xs++gK (v0,(D.len:Int)-1,t) ta tc,oa3,oc3)) (show G.length-(i+1)<G.length-i by omega) ⟨show i+1≤G.length by omega,by simp only[List.length_append,List.length_singleton];omega,hB.app W⟩ ((by have e:(K++[(v0,(D.len:Int)-1,t)]).length=K.length+1:=(by simp);dsimp only;rw[e];exact A2 lE C)) (λw f F=>⟨_,(by have e:(K++[(v0,(D.len:Int)-1,t)]).length=K.length+1:=(by simp);dsimp only;rw[e];exact (F.more (B':=[]) (F':=[λw f=>Kf w f (K++[(v0,(D.len:Int)-1,t)]) (xs++gK (v0,(D.len:Int)-1,t) ta tc)]) nE (AA.mem ⟨Kf.snoc F.f0 F.f1,tQ⟩) (Ap.mem ⟨Kf.mono,tQ⟩)).less (.cons _ sR) sR nE (mR [0,3,4]))⟩)));exact Aa 3 (λ_=>Dl<|Aa 9 (λ_=>AK (Cy C C) (λw f F=>⟨(oa2,oc2,K,xs),f,C,⟨(show K.length=l.length+G.length by have:=dF L;omega),hB⟩,F.exm,(λb Y=>let ⟨L,h2,h3⟩:=F.mi b Y;h3.elim (λh=>.inr ⟨h,L,h2⟩) .inl),F.res,⟨F.f0,tQ⟩⟩)))
def LG(b1 b2 b3 b4 b5 b6:Nat)(S:List Nat)(x:zA):AW :=
 sU (H3 S 7) 8 (pB x.2.2.2.1)<|sU (H3 S 6) 7 (pB x.2.2.1)<|sU (H3 S 5) 21 (tV (T1.con Cl (T1.var 1).one) x.2.2.2.2.2.1 x.2.2.2.2.2.2)<|sU (H3 S 2) 18 (tV (T1.con Gw (T1.var 1).one) x.2.2.2.2.1.1 x.2.2.2.2.1.2) <|
 sU (H3 S 4) 20 (.slice (some ⟨x.2.1,0,none⟩) 1 1)<|sU (H3 S 1) 17 (.slice (some ⟨x.1,0,none⟩) 1 1)<|E8 1 (pB b1) 2 (pB b2) 3 (pB b3) 4 (pB b4) 5 (pB b5) 6 (pB b6) 16 (tV (.var 1) none 0) 19 (tV (.var 1) none 0)
def JH(b1 b2 b3 b4 b5 b6:Nat)(S:List Nat)(x:zA):List HB :=
 sL (H3 S 7) ⟨x.2.2.2.1,zT,75,true⟩<|sL (H3 S 6) ⟨x.2.2.1,zT,75,true⟩<|sL (H3 S 4&&!H3 S 5) ⟨x.2.1,tC (.var 1) none 0,75,true⟩<|sL (H3 S 1&&!H3 S 2) ⟨x.1,tC (.var 1) none 0,75,true⟩ [⟨b6,tC (.var 1) none 0,75,true⟩,⟨b5,tC (c0 bU) none 0,75,true⟩,⟨b4,tC (c0 bB) none 0,75,true⟩,⟨b3,tC (c0 bS) none 0,75,true⟩,⟨b2,tC (c0 bF) none 0,75,true⟩,⟨b1,tC (c0 bI) none 0,75,true⟩]
def f17(S:List Nat)(x:zA):List (wO→Fq→Prop) :=
 sL (H3 S 5) (λw f=>Ae w f (T1.var 1).one x.2.2.2.2.2.1 x.2.2.2.2.2.2)<|sL (H3 S 2) (λw f=>Ae w f (T1.var 1).one x.2.2.2.2.1.1 x.2.2.2.2.1.2) []
variable {Q:AQ}{σ:AW}{af:Array Edge}{F0:List (wO→Fq→Prop)}{ds:List Deferred}{B:List FB}{fs:List Fr}{H H':List HB}{xs:lV}{d n nb oc:Nat}{M:Nat→Prop}{g:Option (Nat×Bool)}{oa:oA}{pos:String}{T T' ty:tI}{w0:wO}
theorem GG{f0:Fq}{H1:List HB}{all r:List Oper}{op:Op}{tb:Nat}{l:List MJ}(ka L O:Nat)(D:List Q3)(G:List lU)
  (he:∀w,SW.Enters prog σ op ty w 62 #[.slice oa l.length oc,.slice (some ⟨nb,0,none⟩) G.length G.length,.slice (some ⟨tb,0,none⟩) D.length D.length]) (hg:gd all σ g=some true) (hd:Nat.blt d n=true) (U:GP H ka=some ⟨nb,G.flatMap sC,T',true⟩) (W:Kb H ka=some H1) (Y:GP H1 L=some ⟨tb,wG D,T,true⟩) (Z:Kb H1 L=some H') (hl:l.length=O) (hB:RD l)
  (hG:∀w f H B,AP ⟨M,Ue oa,HG 82 oa oc l.length xs,w0,f0⟩ w f H [] B ((λw f=>Kf w f l xs)::F0)→hoL w f D) (hbd:Y7 D)
  (h:∀a c J xs',J.length=O+G.length→RD J→Aw prog n Q ds ⟨M,Ue a,HG 82 a c J.length xs',w0,f0⟩ [] B ((λw f=>Kf w f J xs')::F0) (.ops all r) fs (AD σ d (.slice a J.length c)) H')
  (hc:(Nat.ble (O+G.length) 1000&&(Nat.ble 1 D.length&&Nat.ble D.length 10))=true:=by kernel_rfl) :
  Aw prog n Q ds ⟨M,Ue oa,HG 82 oa oc l.length xs,w0,f0⟩ [] B ((λw f=>Kf w f l xs)::F0) (.ops all (⟨some d,op,ty,pos,af,g⟩::r)) fs σ H:=by
 simp only[Bool.and_eq_true] at hc;obtain⟨h1,h2,h3⟩:=hc;have e:=MQ D;have h2':1≤(Pj D).len:=by rw[e];exact Nat.le_of_ble_eq_true h2
 have h3':(Pj D).len≤10:=by rw[e];exact Nat.le_of_ble_eq_true h3
 have he':∀w,SW.Enters prog σ op ty w 62 #[.slice oa l.length oc,.slice (some ⟨nb,0,none⟩) G.length G.length,.slice (some ⟨tb,0,none⟩) (Pj D).len D.length]:=by rw[e];exact he
 refine CJ ka U W<|CJ L Y Z<|Cj (λw f=>IJ sC w f G (some ⟨nb,0,none⟩) G.length) (λw f F=>⟨Nat.le_refl _,.inr ⟨nb,0,C,F.b1⟩⟩) IJ.mono<|Cj (λw f=>Ae w f (Pj D) (some ⟨tb,0,none⟩) D.length) (λw f F=>BD (hG w f _ _ (F.less sR sR (λ_ h=>h) (λ_ h=>.tail _ h))) F.b0) Ae.mono<|iY (XX:=λ_ _=>False) hg hd he' (λw f F=>(UI w f F.vl oa oc l xs F.res F.f2 F.mz hB G (some ⟨nb,0,none⟩) G.length (by rw[hl];exact Nat.le_of_ble_eq_true h1) F.f1 (Pj D) (some ⟨tb,0,none⟩) D.length ⟨h2',h3'⟩ (MR hbd) F.f0).retP) (λ_=>HG.stab) (λ_=>⟨Kf.mono,tQ⟩) (λ_ _ _ _ _ h=>h.elim) ?_;rintro⟨a,c,J,xs'⟩ ⟨hl',hb'⟩;refine λw f F=>h a c J xs' (by rw[← hl];exact hl') hb' w f<|F.less sR sR (λe he=>.tail _ (.tail _ he)) (λφ K=>?_);rcases List.mem_cons.1 K with rfl|K
 · exact .head _
 · exact .tail _ (.tail _ (.tail _ (.tail _ K)))
def SH:OT:=.br 9 .fin .fin
def I5:OT:=.br 8 SH .fin
def H7:OT:=.br 5 I5 .fin
def IS:OT:=.br 2 H7 .fin
def Nh:OT:=.br 1 IS .fin
def Lt:OT:=.br 4 H7 .fin
def Nf:OT:=.br 2 Lt (.br 4 IS .fin)
def V3:OT:=.br 1 Nf (.br 4 Nh .fin)
def Mt:OT:=.br 6 I5 .fin
def L8:OT:=.br 5 Mt (.br 6 H7 .fin)
def Nw:OT:=.br 2 L8 (.br 6 IS .fin)
def UK:OT:=.br 1 Nw (.br 6 Nh .fin)
def RQ:OT:=.br 4 L8 (.br 6 Lt .fin)
def Wu:OT:=.br 2 RQ (.br 4 Nw (.br 6 Nf .fin))
def qA:OT:=.br 1 Wu (.br 4 UK (.br 6 V3 .fin))
def LU:OT:=.br 7 I5 .fin
def Ld:OT:=.br 5 LU (.br 7 H7 .fin)
def Nk:OT:=.br 2 Ld (.br 7 IS .fin)
def Um:OT:=.br 1 Nk (.br 7 Nh .fin)
def Q7:OT:=.br 4 Ld (.br 7 Lt .fin)
def Ux:OT:=.br 2 Q7 (.br 4 Nk (.br 7 Nf .fin))
def pN:OT:=.br 1 Ux (.br 4 Um (.br 7 V3 .fin))
def Sf:OT:=.br 6 LU (.br 7 Mt .fin)
def QH:OT:=.br 5 Sf (.br 6 Ld (.br 7 L8 .fin))
def Wh:OT:=.br 2 QH (.br 6 Nk (.br 7 Nw .fin))
def rG:OT:=.br 1 Wh (.br 6 Um (.br 7 UK .fin))
def cD:OT:=.br 4 QH (.br 6 Q7 (.br 7 RQ .fin))
def pF:OT:=.br 2 cD (.br 4 Wh (.br 6 Ux (.br 7 Wu .fin)))
def t17_:OT:=.br 1 pF (.br 4 rG (.br 6 pN (.br 7 qA .fin)))
theorem TY(w:wO)(f:Fq)(hv:Vl w f) :
  AO prog 16 #[] w (AF (α:=oA×Nat×List MJ) (λx=>.slice x.1 x.2.2.length x.2.1) (λx=>(0<x.2.2.length∧x.2.2.length≤100)∧RD x.2.2) (λx=>[λw f=>NY w f x.2.2 x.1 x.2.1]) w f):=by
 refine Hm (X:=⟨λ_=>False,Ue none,HG 82 none 0 0 [],w,f⟩) (H:=[]) (R:=[]) (B:=[]) (Fs:=[]) (f:=f) func16 C C C (primM hv)<|Aa 7 (λ_=>B3 C C (eC CM C C) (λw f D=>Bq w f D.vl [105,110,116] 0 none 0)<|B3 C C (eC CM C C) (λw f D=>Bq w f D.vl [102,108,111,97,116] 0 none 0)<|B3 C C (eC CM C C) (λw f D=>Bq w f D.vl [115,116,114,105,110,103] 0 none 0)<|B3 C C (eC CM C C) (λw f D=>Bq w f D.vl [98,111,111,108] 0 none 0)<|B3 C C (eC CM C C) (λw f D=>Bq w f D.vl [117,110,105,116] 0 none 0)<|Af 14 [4,3,2,1,0] (λb1=>λb2=>λb3=>λb4=>λb5=>y<|y<|y<|y<|y<|λ_=>B3 C C (eC Iz C C) (λw f D=>DQ w f D.vl 1)<|Af 5 [0] (λb6=>y<|λ_=>?_)));refine RP (α:=Nat×Nat×(oA×Nat)×(oA×Nat)) (λx=>True) (λx=>(E8 1 (pB b1) 2 (pB b2) 3 (pB b3) 4 (pB b4) 5 (pB b5) 6 (pB b6) 7 (pB x.1) 8 (pB x.2.1))) (λx=>⟨λ_=>False,Ue none,HG 82 none 0 0 [],w,f⟩) (λx=>[⟨x.2.1,tC (T1.con Cl (T1.var 1).one) x.2.2.2.1 x.2.2.2.2,75,true⟩,⟨x.1,tC (T1.con Gw (T1.var 1).one) x.2.2.1.1 x.2.2.1.2,75,true⟩,⟨b6,tC (.var 1) none 0,75,true⟩,⟨b5,tC (c0 bU) none 0,75,true⟩,⟨b4,tC (c0 bB) none 0,75,true⟩,⟨b3,tC (c0 bS) none 0,75,true⟩,⟨b2,tC (c0 bF) none 0,75,true⟩,⟨b1,tC (c0 bI) none 0,75,true⟩]) (λx=>[]) (λx=>[]) (λx=>[λw f=>Ae w f (T1.var 1).one x.2.2.2.1 x.2.2.2.2,λw f=>Ae w f (T1.var 1).one x.2.2.1.1 x.2.2.1.2]) ?_ ?_;refine Ca [0,1,2,3,4,5] Aj (.rd 0 (.rd 3 t17_)) C kR<|Bh 2 [0,0] (y<|y<|λ_=>CW I5 (LG b1 b2 b3 b4 b5 b6 [1,2,4,5,6,7]) (JH b1 b2 b3 b4 b5 b6 [1,2,4,5,6,7]) (λ_=>[]) (f17 [1,2,4,5,6,7]) ?_ (λW=>?_))
 ·
  rintro⟨F,G,b7,O,⟨L,rc⟩,⟨J,K⟩⟩;exact Ah C<|Af 2 [1] (y<|λ_=>Am [2,3,4,5,6,7] C<|Ah C<|Af 2 [0] (y<|λ_=>Am [2,3,4,5,6,7] C<|Bp<|Ph (b7,O,(L,rc),(J,K)) tQ lE (λw f D=>⟨f,D⟩)))
 refine CW Mt (LG b1 b2 b3 b4 b5 b6 [1,2,4,5,7]) (JH b1 b2 b3 b4 b5 b6 [1,2,4,5,7]) (λ_=>[]) (f17 [1,2,4,5,7]) ?_ (λhS12457=>?_)
 ·
  rintro⟨F,G,b7,O,⟨L,rc⟩,⟨J,K⟩⟩;exact Ah C<|Aa 2 (λq=>λ_=>Am [2,3,4,5,6,7] C<|AX W (F,G,q,O,(L,rc),(J,K)) lE (λw f D=>D.perm (List.perm_middle (l₁:=[_]))))
 refine CW LU (LG b1 b2 b3 b4 b5 b6 [1,2,4,5,6]) (JH b1 b2 b3 b4 b5 b6 [1,2,4,5,6]) (λ_=>[]) (f17 [1,2,4,5,6]) ?_ (λhS12456=>?_)
 ·
  rintro⟨F,G,b7,O,⟨L,rc⟩,⟨J,K⟩⟩;exact Ah C<|Aa 2 (λq=>λ_=>Am [2,3,4,5,6,7] C<|AX W (F,G,b7,q,(L,rc),(J,K)) lE (λw f D=>D))
 refine CW H7 (LG b1 b2 b3 b4 b5 b6 [1,2,4,6,7]) (JH b1 b2 b3 b4 b5 b6 [1,2,4,6,7]) (λ_=>[]) (f17 [1,2,4,6,7]) ?_ (λU=>?_)
 ·
  rintro⟨F,G,b7,O,⟨L,rc⟩,⟨J,K⟩⟩;exact Ah C<|CJ 2 C C<|Cj (λw f=>Ae w f (T1.var 1).one (some ⟨G,0,none⟩) 1) (λw f D=>BD (l:=[(.var 1,none,0)]) ⟨Ae.nil _ _ _ _,tQ⟩ D.b0) Ae.mono<|B3 C C (eC CM C C) (λw f D=>Bq w f D.vl Cl 1 (some ⟨G,0,none⟩) 1)<|Aa 1 (λ_=>AS [2,3,4,5,6,7] DG C (λ_ h=>.tail _ h)<|AX W (F,G,b7,O,(L,rc),((some ⟨G,0,none⟩),1)) lE (λw f D=>D.less sR sR nE (mR [0,1])))
 refine CW L8 (LG b1 b2 b3 b4 b5 b6 [1,2,4,7]) (JH b1 b2 b3 b4 b5 b6 [1,2,4,7]) (λ_=>[]) (f17 [1,2,4,7]) ?_ (λZ=>?_)
 ·
  rintro⟨F,G,b7,O,⟨L,rc⟩,⟨J,K⟩⟩;refine Bj C ?_ ?_;exact CJ 1 C C<|Cj (λw f=>Ae w f (T1.var 1).one (some ⟨G,0,none⟩) 1) (λw f D=>BD (l:=[(.var 1,none,0)]) ⟨Ae.nil _ _ _ _,tQ⟩ D.b0) Ae.mono<|B3 C C (eC CM C C) (λw f D=>Bq w f D.vl Cl 1 (some ⟨G,0,none⟩) 1)<|Aa 1 (λ_=>AS [1,2,3,4,5,6] DG C (λ_ h=>.tail _ h)<|AX hS12457 (F,G,b7,O,(L,rc),((some ⟨G,0,none⟩),1)) lE (λw f D=>D.less sR sR nE (mR [0,1])));exact Ah C<|Aa 2 (λq=>λ_=>Am [3,4,5,6,7,8] C<|AX U (F,G,q,O,(L,rc),(J,K)) lE (λw f D=>D.perm (List.perm_middle (l₁:=[_]))))
 refine CW Lt (LG b1 b2 b3 b4 b5 b6 [1,2,6,7]) (JH b1 b2 b3 b4 b5 b6 [1,2,6,7]) (λ_=>[]) (f17 [1,2,6,7]) ?_ (λhS1267=>?_)
 ·
  rintro⟨F,G,b7,O,⟨L,rc⟩,⟨J,K⟩⟩;exact Ah C<|Aa 2 (λq=>λ_=>Am [3,4,5,6,7,8] C<|AX U (F,q,b7,O,(L,rc),(J,K)) lE (λw f D=>D.perm (List.perm_middle (l₁:=[_,_]))))
 refine CW Ld (LG b1 b2 b3 b4 b5 b6 [1,2,4,6]) (JH b1 b2 b3 b4 b5 b6 [1,2,4,6]) (λ_=>[]) (f17 [1,2,4,6]) ?_ (λhS1246=>?_)
 ·
  rintro⟨F,G,b7,O,⟨L,rc⟩,⟨J,K⟩⟩;refine Bj C ?_ ?_;exact CJ 1 C C<|Cj (λw f=>Ae w f (T1.var 1).one (some ⟨G,0,none⟩) 1) (λw f D=>BD (l:=[(.var 1,none,0)]) ⟨Ae.nil _ _ _ _,tQ⟩ D.b0) Ae.mono<|B3 C C (eC CM C C) (λw f D=>Bq w f D.vl Cl 1 (some ⟨G,0,none⟩) 1)<|Aa 1 (λ_=>AS [1,2,3,4,5,6] DG C (λ_ h=>.tail _ h)<|AX hS12456 (F,G,b7,O,(L,rc),((some ⟨G,0,none⟩),1)) lE (λw f D=>D.less sR sR nE (mR [0,1])));exact Ah C<|Aa 2 (λq=>λ_=>Am [3,4,5,6,7,8] C<|AX U (F,G,b7,q,(L,rc),(J,K)) lE (λw f D=>D))
 refine CW Sf (LG b1 b2 b3 b4 b5 b6 [1,2,4,5]) (JH b1 b2 b3 b4 b5 b6 [1,2,4,5]) (λ_=>[]) (f17 [1,2,4,5]) ?_ (λhS1245=>?_)
 ·
  rintro⟨F,G,b7,O,⟨L,rc⟩,⟨J,K⟩⟩;refine Bj C ?_ ?_;exact Aa 2 (λq=>λ_=>Am [1,2,3,4,5,6] C<|AX hS12456 (F,G,q,O,(L,rc),(J,K)) lE (λw f D=>D));exact Ah C<|Aa 2 (λq=>λ_=>Am [1,2,3,4,5,6] C<|AX hS12457 (F,G,b7,q,(L,rc),(J,K)) lE (λw f D=>D))
 refine CW IS (LG b1 b2 b3 b4 b5 b6 [1,4,6,7]) (JH b1 b2 b3 b4 b5 b6 [1,4,6,7]) (λ_=>[]) (f17 [1,4,6,7]) ?_ (λY=>?_)
 ·
  rintro⟨F,G,b7,O,⟨L,rc⟩,⟨J,K⟩⟩;exact Ah C<|CJ 3 C C<|Cj (λw f=>Ae w f (T1.var 1).one (some ⟨F,0,none⟩) 1) (λw f D=>BD (l:=[(.var 1,none,0)]) ⟨Ae.nil _ _ _ _,tQ⟩ D.b0) Ae.mono<|B3 C C (eC CM C C) (λw f D=>Bq w f D.vl Gw 1 (some ⟨F,0,none⟩) 1)<|Aa 1 (λ_=>AS [3,4,5,6,7,8] DG C (λ_ h=>.tail _ h)<|AX U (F,G,b7,O,((some ⟨F,0,none⟩),1),(J,K)) lE (λw f D=>D.less sR sR nE (mR [0])))
 refine CW Nk (LG b1 b2 b3 b4 b5 b6 [1,4,6]) (JH b1 b2 b3 b4 b5 b6 [1,4,6]) (λ_=>[]) (f17 [1,4,6]) ?_ (λhS146=>?_)
 ·
  rintro⟨F,G,b7,O,⟨L,rc⟩,⟨J,K⟩⟩;refine Bj C ?_ ?_;exact CJ 2 C C<|Cj (λw f=>Ae w f (T1.var 1).one (some ⟨F,0,none⟩) 1) (λw f D=>BD (l:=[(.var 1,none,0)]) ⟨Ae.nil _ _ _ _,tQ⟩ D.b0) Ae.mono<|B3 C C (eC CM C C) (λw f D=>Bq w f D.vl Gw 1 (some ⟨F,0,none⟩) 1)<|Aa 1 (λ_=>AS [2,3,4,5,6,7] DG C (λ_ h=>.tail _ h)<|AX hS1246 (F,G,b7,O,((some ⟨F,0,none⟩),1),(J,K)) lE (λw f D=>D.less sR sR nE (mR [0])));exact Ah C<|Aa 2 (λq=>λ_=>Am [4,5,6,7,8,9] C<|AX Y (F,G,b7,q,(L,rc),(J,K)) lE (λw f D=>D))
 refine CW Nw (LG b1 b2 b3 b4 b5 b6 [1,4,7]) (JH b1 b2 b3 b4 b5 b6 [1,4,7]) (λ_=>[]) (f17 [1,4,7]) ?_ (λhS147=>?_)
 ·
  rintro⟨F,G,b7,O,⟨L,rc⟩,⟨J,K⟩⟩;refine Bj C ?_ ?_;exact CJ 2 C C<|Cj (λw f=>Ae w f (T1.var 1).one (some ⟨F,0,none⟩) 1) (λw f D=>BD (l:=[(.var 1,none,0)]) ⟨Ae.nil _ _ _ _,tQ⟩ D.b0) Ae.mono<|B3 C C (eC CM C C) (λw f D=>Bq w f D.vl Gw 1 (some ⟨F,0,none⟩) 1)<|Aa 1 (λ_=>AS [2,3,4,5,6,7] DG C (λ_ h=>.tail _ h)<|AX Z (F,G,b7,O,((some ⟨F,0,none⟩),1),(J,K)) lE (λw f D=>D.less sR sR nE (mR [0])));exact Ah C<|Aa 2 (λq=>λ_=>Am [4,5,6,7,8,9] C<|AX Y (F,G,q,O,(L,rc),(J,K)) lE (λw f D=>D.perm (List.perm_middle (l₁:=[_]))))
 refine CW RQ (LG b1 b2 b3 b4 b5 b6 [1,2,7]) (JH b1 b2 b3 b4 b5 b6 [1,2,7]) (λ_=>[]) (f17 [1,2,7]) ?_ (λhS127=>?_)
 ·
  rintro⟨F,G,b7,O,⟨L,rc⟩,⟨J,K⟩⟩;refine Bj C ?_ ?_;exact Aa 2 (λq=>λ_=>Am [2,3,4,5,6,7] C<|AX Z (F,q,b7,O,(L,rc),(J,K)) lE (λw f D=>D.perm (List.perm_middle (l₁:=[_]))));exact Ah C<|Aa 2 (λq=>λ_=>Am [2,3,4,5,6,7] C<|AX hS1267 (F,G,q,O,(L,rc),(J,K)) lE (λw f D=>D.perm (List.perm_middle (l₁:=[_]))))
 refine CW Nf (LG b1 b2 b3 b4 b5 b6 [1,6,7]) (JH b1 b2 b3 b4 b5 b6 [1,6,7]) (λ_=>[]) (f17 [1,6,7]) ?_ (λhS167=>?_)
 ·
  rintro⟨F,G,b7,O,⟨L,rc⟩,⟨J,K⟩⟩;refine Bj C ?_ ?_;exact CJ 2 C C<|Cj (λw f=>Ae w f (T1.var 1).one (some ⟨F,0,none⟩) 1) (λw f D=>BD (l:=[(.var 1,none,0)]) ⟨Ae.nil _ _ _ _,tQ⟩ D.b0) Ae.mono<|B3 C C (eC CM C C) (λw f D=>Bq w f D.vl Gw 1 (some ⟨F,0,none⟩) 1)<|Aa 1 (λ_=>AS [2,3,4,5,6,7] DG C (λ_ h=>.tail _ h)<|AX hS1267 (F,G,b7,O,((some ⟨F,0,none⟩),1),(J,K)) lE (λw f D=>D.less sR sR nE (mR [0])));exact Ah C<|Aa 2 (λq=>λ_=>Am [4,5,6,7,8,9] C<|AX Y (F,q,b7,O,(L,rc),(J,K)) lE (λw f D=>D.perm (List.perm_middle (l₁:=[_,_]))))
 refine CW Q7 (LG b1 b2 b3 b4 b5 b6 [1,2,6]) (JH b1 b2 b3 b4 b5 b6 [1,2,6]) (λ_=>[]) (f17 [1,2,6]) ?_ (λhS126=>?_)
 ·
  rintro⟨F,G,b7,O,⟨L,rc⟩,⟨J,K⟩⟩;refine Bj C ?_ ?_;exact Aa 2 (λq=>λ_=>Am [2,3,4,5,6,7] C<|AX hS1246 (F,q,b7,O,(L,rc),(J,K)) lE (λw f D=>D.perm (List.perm_middle (l₁:=[_]))));exact Ah C<|Aa 2 (λq=>λ_=>Am [2,3,4,5,6,7] C<|AX hS1267 (F,G,b7,q,(L,rc),(J,K)) lE (λw f D=>D))
 refine CW Nh (LG b1 b2 b3 b4 b5 b6 [4,6,7]) (JH b1 b2 b3 b4 b5 b6 [4,6,7]) (λ_=>[]) (f17 [4,6,7]) ?_ (λhS467=>?_)
 ·
  rintro⟨F,G,b7,O,⟨L,rc⟩,⟨J,K⟩⟩;exact Ah C<|Aa 2 (λq=>λ_=>Am [4,5,6,7,8,9] C<|AX Y (q,G,b7,O,(L,rc),(J,K)) lE (λw f D=>D.perm (List.perm_middle (l₁:=[_,_,_]))))
 refine CW QH (LG b1 b2 b3 b4 b5 b6 [1,2,4]) (JH b1 b2 b3 b4 b5 b6 [1,2,4]) (λ_=>[]) (f17 [1,2,4]) ?_ (λhS124=>?_)
 ·
  rintro⟨F,G,b7,O,⟨L,rc⟩,⟨J,K⟩⟩;refine Bj C ?_ ?_;exact CJ 0 C C<|Cj (λw f=>Ae w f (T1.var 1).one (some ⟨G,0,none⟩) 1) (λw f D=>BD (l:=[(.var 1,none,0)]) ⟨Ae.nil _ _ _ _,tQ⟩ D.b0) Ae.mono<|B3 C C (eC CM C C) (λw f D=>Bq w f D.vl Cl 1 (some ⟨G,0,none⟩) 1)<|Aa 1 (λ_=>AS [0,1,2,3,4,5] DG C (λ_ h=>.tail _ h)<|AX hS1245 (F,G,b7,O,(L,rc),((some ⟨G,0,none⟩),1)) lE (λw f D=>D.less sR sR nE (mR [0,1])));refine Bj C ?_ ?_;exact Aa 2 (λq=>λ_=>Am [2,3,4,5,6,7] C<|AX hS1246 (F,G,q,O,(L,rc),(J,K)) lE (λw f D=>D));exact Ah C<|Aa 2 (λq=>λ_=>Am [2,3,4,5,6,7] C<|AX Z (F,G,b7,q,(L,rc),(J,K)) lE (λw f D=>D))
 refine CW Wh (LG b1 b2 b3 b4 b5 b6 [1,4]) (JH b1 b2 b3 b4 b5 b6 [1,4]) (λ_=>[]) (f17 [1,4]) ?_ (λhS14=>?_)
 ·
  rintro⟨F,G,b7,O,⟨L,rc⟩,⟨J,K⟩⟩;refine Bj C ?_ ?_;exact CJ 1 C C<|Cj (λw f=>Ae w f (T1.var 1).one (some ⟨F,0,none⟩) 1) (λw f D=>BD (l:=[(.var 1,none,0)]) ⟨Ae.nil _ _ _ _,tQ⟩ D.b0) Ae.mono<|B3 C C (eC CM C C) (λw f D=>Bq w f D.vl Gw 1 (some ⟨F,0,none⟩) 1)<|Aa 1 (λ_=>AS [1,2,3,4,5,6] DG C (λ_ h=>.tail _ h)<|AX hS124 (F,G,b7,O,((some ⟨F,0,none⟩),1),(J,K)) lE (λw f D=>D.less sR sR nE (mR [0])));refine Bj C ?_ ?_;exact Aa 2 (λq=>λ_=>Am [3,4,5,6,7,8] C<|AX hS146 (F,G,q,O,(L,rc),(J,K)) lE (λw f D=>D));exact Ah C<|Aa 2 (λq=>λ_=>Am [3,4,5,6,7,8] C<|AX hS147 (F,G,b7,q,(L,rc),(J,K)) lE (λw f D=>D))
 refine CW Um (LG b1 b2 b3 b4 b5 b6 [4,6]) (JH b1 b2 b3 b4 b5 b6 [4,6]) (λ_=>[]) (f17 [4,6]) ?_ (λhS46=>?_)
 ·
  rintro⟨F,G,b7,O,⟨L,rc⟩,⟨J,K⟩⟩;refine Bj C ?_ ?_;exact Aa 2 (λq=>λ_=>Am [3,4,5,6,7,8] C<|AX hS146 (q,G,b7,O,(L,rc),(J,K)) lE (λw f D=>D.perm (List.perm_middle (l₁:=[_,_]))));exact Ah C<|Aa 2 (λq=>λ_=>Am [3,4,5,6,7,8] C<|AX hS467 (F,G,b7,q,(L,rc),(J,K)) lE (λw f D=>D))
 refine CW Wu (LG b1 b2 b3 b4 b5 b6 [1,7]) (JH b1 b2 b3 b4 b5 b6 [1,7]) (λ_=>[]) (f17 [1,7]) ?_ (λhS17=>?_)
 ·
  rintro⟨F,G,b7,O,⟨L,rc⟩,⟨J,K⟩⟩;refine Bj C ?_ ?_;exact CJ 1 C C<|Cj (λw f=>Ae w f (T1.var 1).one (some ⟨F,0,none⟩) 1) (λw f D=>BD (l:=[(.var 1,none,0)]) ⟨Ae.nil _ _ _ _,tQ⟩ D.b0) Ae.mono<|B3 C C (eC CM C C) (λw f D=>Bq w f D.vl Gw 1 (some ⟨F,0,none⟩) 1)<|Aa 1 (λ_=>AS [1,2,3,4,5,6] DG C (λ_ h=>.tail _ h)<|AX hS127 (F,G,b7,O,((some ⟨F,0,none⟩),1),(J,K)) lE (λw f D=>D.less sR sR nE (mR [0])));refine Bj C ?_ ?_;exact Aa 2 (λq=>λ_=>Am [3,4,5,6,7,8] C<|AX hS147 (F,q,b7,O,(L,rc),(J,K)) lE (λw f D=>D.perm (List.perm_middle (l₁:=[_]))));exact Ah C<|Aa 2 (λq=>λ_=>Am [3,4,5,6,7,8] C<|AX hS167 (F,G,q,O,(L,rc),(J,K)) lE (λw f D=>D.perm (List.perm_middle (l₁:=[_]))))
 refine CW Ux (LG b1 b2 b3 b4 b5 b6 [1,6]) (JH b1 b2 b3 b4 b5 b6 [1,6]) (λ_=>[]) (f17 [1,6]) ?_ (λhS16=>?_)
 ·
  rintro⟨F,G,b7,O,⟨L,rc⟩,⟨J,K⟩⟩;refine Bj C ?_ ?_;exact CJ 1 C C<|Cj (λw f=>Ae w f (T1.var 1).one (some ⟨F,0,none⟩) 1) (λw f D=>BD (l:=[(.var 1,none,0)]) ⟨Ae.nil _ _ _ _,tQ⟩ D.b0) Ae.mono<|B3 C C (eC CM C C) (λw f D=>Bq w f D.vl Gw 1 (some ⟨F,0,none⟩) 1)<|Aa 1 (λ_=>AS [1,2,3,4,5,6] DG C (λ_ h=>.tail _ h)<|AX hS126 (F,G,b7,O,((some ⟨F,0,none⟩),1),(J,K)) lE (λw f D=>D.less sR sR nE (mR [0])));refine Bj C ?_ ?_;exact Aa 2 (λq=>λ_=>Am [3,4,5,6,7,8] C<|AX hS146 (F,q,b7,O,(L,rc),(J,K)) lE (λw f D=>D.perm (List.perm_middle (l₁:=[_]))));exact Ah C<|Aa 2 (λq=>λ_=>Am [3,4,5,6,7,8] C<|AX hS167 (F,G,b7,q,(L,rc),(J,K)) lE (λw f D=>D))
 refine CW UK (LG b1 b2 b3 b4 b5 b6 [4,7]) (JH b1 b2 b3 b4 b5 b6 [4,7]) (λ_=>[]) (f17 [4,7]) ?_ (λhS47=>?_)
 ·
  rintro⟨F,G,b7,O,⟨L,rc⟩,⟨J,K⟩⟩;refine Bj C ?_ ?_;exact Aa 2 (λq=>λ_=>Am [3,4,5,6,7,8] C<|AX hS147 (q,G,b7,O,(L,rc),(J,K)) lE (λw f D=>D.perm (List.perm_middle (l₁:=[_,_]))));exact Ah C<|Aa 2 (λq=>λ_=>Am [3,4,5,6,7,8] C<|AX hS467 (F,G,q,O,(L,rc),(J,K)) lE (λw f D=>D.perm (List.perm_middle (l₁:=[_]))))
 refine CW V3 (LG b1 b2 b3 b4 b5 b6 [6,7]) (JH b1 b2 b3 b4 b5 b6 [6,7]) (λ_=>[]) (f17 [6,7]) ?_ (λhS67=>?_)
 ·
  rintro⟨F,G,b7,O,⟨L,rc⟩,⟨J,K⟩⟩;refine Bj C ?_ ?_;exact Aa 2 (λq=>λ_=>Am [3,4,5,6,7,8] C<|AX hS167 (q,G,b7,O,(L,rc),(J,K)) lE (λw f D=>D.perm (List.perm_middle (l₁:=[_,_]))));exact Ah C<|Aa 2 (λq=>λ_=>Am [3,4,5,6,7,8] C<|AX hS467 (F,q,b7,O,(L,rc),(J,K)) lE (λw f D=>D.perm (List.perm_middle (l₁:=[_,_]))))
 refine CW cD (LG b1 b2 b3 b4 b5 b6 [1,2]) (JH b1 b2 b3 b4 b5 b6 [1,2]) (λ_=>[]) (f17 [1,2]) ?_ (λhS12=>?_)
 ·
  rintro⟨F,G,b7,O,⟨L,rc⟩,⟨J,K⟩⟩;refine Bj C ?_ ?_;exact Aa 2 (λq=>λ_=>Am [1,2,3,4,5,6] C<|AX hS124 (F,q,b7,O,(L,rc),(J,K)) lE (λw f D=>D));refine Bj C ?_ ?_;exact Aa 2 (λq=>λ_=>Am [1,2,3,4,5,6] C<|AX hS126 (F,G,q,O,(L,rc),(J,K)) lE (λw f D=>D));exact Ah C<|Aa 2 (λq=>λ_=>Am [1,2,3,4,5,6] C<|AX hS127 (F,G,b7,q,(L,rc),(J,K)) lE (λw f D=>D))
 refine CW pF (LG b1 b2 b3 b4 b5 b6 [1]) (JH b1 b2 b3 b4 b5 b6 [1]) (λ_=>[]) (f17 [1]) ?_ (λhS1=>?_)
 ·
  rintro⟨F,G,b7,O,⟨L,rc⟩,⟨J,K⟩⟩;refine Bj C ?_ ?_;exact CJ 0 C C<|Cj (λw f=>Ae w f (T1.var 1).one (some ⟨F,0,none⟩) 1) (λw f D=>BD (l:=[(.var 1,none,0)]) ⟨Ae.nil _ _ _ _,tQ⟩ D.b0) Ae.mono<|B3 C C (eC CM C C) (λw f D=>Bq w f D.vl Gw 1 (some ⟨F,0,none⟩) 1)<|Aa 1 (λ_=>AS [0,1,2,3,4,5] DG C (λ_ h=>.tail _ h)<|AX hS12 (F,G,b7,O,((some ⟨F,0,none⟩),1),(J,K)) lE (λw f D=>D.less sR sR nE (mR [0])));refine Bj C ?_ ?_;exact Aa 2 (λq=>λ_=>Am [2,3,4,5,6,7] C<|AX hS14 (F,q,b7,O,(L,rc),(J,K)) lE (λw f D=>D));refine Bj C ?_ ?_;exact Aa 2 (λq=>λ_=>Am [2,3,4,5,6,7] C<|AX hS16 (F,G,q,O,(L,rc),(J,K)) lE (λw f D=>D));exact Ah C<|Aa 2 (λq=>λ_=>Am [2,3,4,5,6,7] C<|AX hS17 (F,G,b7,q,(L,rc),(J,K)) lE (λw f D=>D))
 refine CW rG (LG b1 b2 b3 b4 b5 b6 [4]) (JH b1 b2 b3 b4 b5 b6 [4]) (λ_=>[]) (f17 [4]) ?_ (λhS4=>?_)
 ·
  rintro⟨F,G,b7,O,⟨L,rc⟩,⟨J,K⟩⟩;refine Bj C ?_ ?_;exact Aa 2 (λq=>λ_=>Am [2,3,4,5,6,7] C<|AX hS14 (q,G,b7,O,(L,rc),(J,K)) lE (λw f D=>D.perm (List.perm_middle (l₁:=[_]))));refine Bj C ?_ ?_;exact Aa 2 (λq=>λ_=>Am [2,3,4,5,6,7] C<|AX hS46 (F,G,q,O,(L,rc),(J,K)) lE (λw f D=>D));exact Ah C<|Aa 2 (λq=>λ_=>Am [2,3,4,5,6,7] C<|AX hS47 (F,G,b7,q,(L,rc),(J,K)) lE (λw f D=>D))
 refine CW qA (LG b1 b2 b3 b4 b5 b6 [7]) (JH b1 b2 b3 b4 b5 b6 [7]) (λ_=>[]) (f17 [7]) ?_ (λhS7=>?_)
 ·
  rintro⟨F,G,b7,O,⟨L,rc⟩,⟨J,K⟩⟩;refine Bj C ?_ ?_;exact Aa 2 (λq=>λ_=>Am [2,3,4,5,6,7] C<|AX hS17 (q,G,b7,O,(L,rc),(J,K)) lE (λw f D=>D.perm (List.perm_middle (l₁:=[_]))));refine Bj C ?_ ?_;exact Aa 2 (λq=>λ_=>Am [2,3,4,5,6,7] C<|AX hS47 (F,q,b7,O,(L,rc),(J,K)) lE (λw f D=>D.perm (List.perm_middle (l₁:=[_]))));exact Ah C<|Aa 2 (λq=>λ_=>Am [2,3,4,5,6,7] C<|AX hS67 (F,G,q,O,(L,rc),(J,K)) lE (λw f D=>D.perm (List.perm_middle (l₁:=[_]))))
 refine CW pN (LG b1 b2 b3 b4 b5 b6 [6]) (JH b1 b2 b3 b4 b5 b6 [6]) (λ_=>[]) (f17 [6]) ?_ (λhS6=>?_)
 ·
  rintro⟨F,G,b7,O,⟨L,rc⟩,⟨J,K⟩⟩;refine Bj C ?_ ?_;exact Aa 2 (λq=>λ_=>Am [2,3,4,5,6,7] C<|AX hS16 (q,G,b7,O,(L,rc),(J,K)) lE (λw f D=>D.perm (List.perm_middle (l₁:=[_]))));refine Bj C ?_ ?_;exact Aa 2 (λq=>λ_=>Am [2,3,4,5,6,7] C<|AX hS46 (F,q,b7,O,(L,rc),(J,K)) lE (λw f D=>D.perm (List.perm_middle (l₁:=[_]))));exact Ah C<|Aa 2 (λq=>λ_=>Am [2,3,4,5,6,7] C<|AX hS67 (F,G,b7,q,(L,rc),(J,K)) lE (λw f D=>D))
 refine CW t17_ (LG b1 b2 b3 b4 b5 b6 []) (JH b1 b2 b3 b4 b5 b6 []) (λ_=>[]) (f17 []) ?_ (λhS=>?_)
 ·
  rintro⟨F,G,b7,O,⟨L,rc⟩,⟨J,K⟩⟩;refine Bj C ?_ ?_;exact Aa 2 (λq=>λ_=>Am [1,2,3,4,5,6] C<|AX hS1 (q,G,b7,O,(L,rc),(J,K)) lE (λw f D=>D));refine Bj C ?_ ?_;exact Aa 2 (λq=>λ_=>Am [1,2,3,4,5,6] C<|AX hS4 (F,q,b7,O,(L,rc),(J,K)) lE (λw f D=>D));refine Bj C ?_ ?_;exact Aa 2 (λq=>λ_=>Am [1,2,3,4,5,6] C<|AX hS6 (F,G,q,O,(L,rc),(J,K)) lE (λw f D=>D));exact Ah C<|Aa 2 (λq=>λ_=>Am [1,2,3,4,5,6] C<|AX hS7 (F,G,b7,q,(L,rc),(J,K)) lE (λw f D=>D))
 exact AX hS (0,0,0,0,(none,0),(none,0)) lE (λw f D=>D);rintro⟨b7,O,⟨L,rc⟩,⟨J,K⟩⟩ -;dsimp only;refine Aa 2 (λ_=>Cj (λw f=>Kf w f [] []) (λ_ _ _=>C) Kf.mono<|Af 6 [8,8,8] (λb31=>y<|y<|y<|λb32=>λ_=>GG (l:=[]) (oa:=none) (oc:=0) (xs:=[]) 1 0 0 [qI,qI,qI] [[43],[45],[42],[100,105,118],[109,111,100]] (eC CG C C) C C C C C C C nE (λw f _ _ D=>⟨qN,⟨qN,⟨qN,tQ⟩⟩⟩) ⟨kI,⟨kI,⟨kI,tQ⟩⟩⟩ λa1 c1 l1 xs1 hl1 hb1=>Af 10 [8,8] (λb33=>y<|y<|λb34=>λ_=>GG (l:=l1) (oa:=a1) (oc:=c1) (xs:=xs1) 1 0 5 [qI,qI] [[110,101,103]] (eC CG C C) C C C C C C hl1 hb1 (λw f _ _ D=>⟨qN,⟨qN,tQ⟩⟩) ⟨kI,⟨kI,tQ⟩⟩ λa2 c2 l2 xs2 hl2 hb2=>Af 11 [8,8,5] (λb35=>y<|y<|y<|λb36=>λ_=>GG (l:=l2) (oa:=a2) (oc:=c2) (xs:=xs2) 1 0 6 [qI,qI,qB] [[60],[60,61],[61]] (eC CG C C) C C C C C C hl2 hb2 (λw f _ _ D=>⟨qN,⟨qN,⟨qN,tQ⟩⟩⟩) ⟨kI,⟨kI,⟨kB,tQ⟩⟩⟩ λa3 c3 l3 xs3 hl3 hb3=>Af 11 [7,7,7] (λb37=>y<|y<|y<|λb38=>λ_=>GG (l:=l3) (oa:=a3) (oc:=c3) (xs:=xs3) 1 0 9 [qF,qF,qF] [[102,43],[102,45],[102,42],[102,47]] (eC CG C C) C C C C C C hl3 hb3 (λw f _ _ D=>⟨qN,⟨qN,⟨qN,tQ⟩⟩⟩) ⟨kF,⟨kF,⟨kF,tQ⟩⟩⟩ λa4 c4 l4 xs4 hl4 hb4=>?_)))));refine Af 10 [7,7] (λb39=>y<|y<|λb40=>λ_=>GG (l:=l4) (oa:=a4) (oc:=c4) (xs:=xs4) 1 0 13 [qF,qF] [[102,115,113,114,116],[102,110,101,103]] (eC CG C C) C C C C C C hl4 hb4 (λw f _ _ D=>⟨qN,⟨qN,tQ⟩⟩) ⟨kF,⟨kF,tQ⟩⟩ λa5 c5 l5 xs5 hl5 hb5=>Af 11 [7,7,5] (λb41=>y<|y<|y<|λb42=>λ_=>GG (l:=l5) (oa:=a5) (oc:=c5) (xs:=xs5) 1 0 15 [qF,qF,qB] [[102,60],[102,61],[102,97,104,101,97,100]] (eC CG C C) C C C C C C hl5 hb5 (λw f _ _ D=>⟨qN,⟨qN,⟨qN,tQ⟩⟩⟩) ⟨kF,⟨kF,⟨kB,tQ⟩⟩⟩ λa6 c6 l6 xs6 hl6 hb6=>Af 10 [8,7] (λb43=>y<|y<|λb44=>λ_=>GG (l:=l6) (oa:=a6) (oc:=c6) (xs:=xs6) 1 0 18 [qI,qF] [[105,116,111,102]] (eC CG C C) C C C C C C hl6 hb6 (λw f _ _ D=>⟨qN,⟨qN,tQ⟩⟩) ⟨kI,⟨kF,tQ⟩⟩ λa7 c7 l7 xs7 hl7 hb7=>Af 10 [7,8] (λb45=>y<|y<|λb46=>λ_=>GG (l:=l7) (oa:=a7) (oc:=c7) (xs:=xs7) 1 0 19 [qF,qI] [[102,116,111,105]] (eC CG C C) C C C C C C hl7 hb7 (λw f _ _ D=>⟨qN,⟨qN,tQ⟩⟩) ⟨kF,⟨kI,tQ⟩⟩ λa8 c8 l8 xs8 hl8 hb8=>Af 10 [7,6] (λb47=>y<|y<|λb48=>λ_=>GG (l:=l8) (oa:=a8) (oc:=c8) (xs:=xs8) 1 0 20 [qF,qS] [[102,98,105,116,115]] (eC CG C C) C C C C C C hl8 hb8 (λw f _ _ D=>⟨qN,⟨qN,tQ⟩⟩) ⟨kF,⟨kS,tQ⟩⟩ λa9 c9 l9 xs9 hl9 hb9=>?_)))))
 refine Af 9 [7] (λb49=>y<|λb50=>λ_=>GG (l:=l9) (oa:=a9) (oc:=c9) (xs:=xs9) 1 0 21 [qF] [[110,97,110],[105,110,102]] (eC CG C C) C C C C C C hl9 hb9 (λw f _ _ D=>⟨qN,tQ⟩) ⟨kF,tQ⟩ λa10 c10 l10 xs10 hl10 hb10=>Af 11 [6,6,6] (λb51=>y<|y<|y<|λb52=>λ_=>GG (l:=l10) (oa:=a10) (oc:=c10) (xs:=xs10) 1 0 23 [qS,qS,qS] [[99,97,116]] (eC CG C C) C C C C C C hl10 hb10 (λw f _ _ D=>⟨qN,⟨qN,⟨qN,tQ⟩⟩⟩) ⟨kS,⟨kS,⟨kS,tQ⟩⟩⟩ λa11 c11 l11 xs11 hl11 hb11=>Af 10 [6,8] (λb53=>y<|y<|λb54=>λ_=>GG (l:=l11) (oa:=a11) (oc:=c11) (xs:=xs11) 1 0 24 [qS,qI] [[108,101,110],[111,114,100],[97,116,111,105]] (eC CG C C) C C C C C C hl11 hb11 (λw f _ _ D=>⟨qN,⟨qN,tQ⟩⟩) ⟨kS,⟨kI,tQ⟩⟩ λa12 c12 l12 xs12 hl12 hb12=>Af 12 [6,8,8,6] (λb55=>y<|y<|y<|y<|λb56=>λ_=>GG (l:=l12) (oa:=a12) (oc:=c12) (xs:=xs12) 1 0 27 [qS,qI,qI,qS] [[115,117,98]] (eC CG C C) C C C C C C hl12 hb12 (λw f _ _ D=>⟨qN,⟨qN,⟨qN,⟨qN,tQ⟩⟩⟩⟩) ⟨kS,⟨kI,⟨kI,⟨kS,tQ⟩⟩⟩⟩ λa13 c13 l13 xs13 hl13 hb13=>Af 11 [6,6,5] (λb57=>y<|y<|y<|λb58=>λ_=>GG (l:=l13) (oa:=a13) (oc:=c13) (xs:=xs13) 1 0 28 [qS,qS,qB] [[115,61],[115,60]] (eC CG C C) C C C C C C hl13 hb13 (λw f _ _ D=>⟨qN,⟨qN,⟨qN,tQ⟩⟩⟩) ⟨kS,⟨kS,⟨kB,tQ⟩⟩⟩ λa14 c14 l14 xs14 hl14 hb14=>?_)))));refine Af 10 [8,6] (λb59=>y<|y<|λb60=>λ_=>GG (l:=l14) (oa:=a14) (oc:=c14) (xs:=xs14) 1 0 30 [qI,qS] [[105,116,111,97],[99,104,114]] (eC CG C C) C C C C C C hl14 hb14 (λw f _ _ D=>⟨qN,⟨qN,tQ⟩⟩) ⟨kI,⟨kS,tQ⟩⟩ λa15 c15 l15 xs15 hl15 hb15=>Af 10 [6,4] (λb61=>y<|y<|λb62=>λ_=>GG (l:=l15) (oa:=a15) (oc:=c15) (xs:=xs15) 1 0 32 [qS,qU] [[112,114,105,110,116]] (eC CG C C) C C C C C C hl15 hb15 (λw f _ _ D=>⟨qN,⟨qN,tQ⟩⟩) ⟨kS,⟨kU,tQ⟩⟩ λa16 c16 l16 xs16 hl16 hb16=>Af 10 [4,6] (λb63=>y<|y<|λb64=>λ_=>GG (l:=l16) (oa:=a16) (oc:=c16) (xs:=xs16) 1 0 33 [qU,qS] [[114,101,97,100]] (eC CG C C) C C C C C C hl16 hb16 (λw f _ _ D=>⟨qN,⟨qN,tQ⟩⟩) ⟨kU,⟨kS,tQ⟩⟩ λa17 c17 l17 xs17 hl17 hb17=>Af 10 [3,2] (λb65=>y<|y<|λb66=>λ_=>GG (l:=l17) (oa:=a17) (oc:=c17) (xs:=xs17) 1 0 34 [qV,(qR L rc)] [[114,101,102]] (eC CG C C) C C C C C C hl17 hb17 (λw f _ _ D=>⟨qN,⟨D.f2,tQ⟩⟩) ⟨kV,⟨(BS dC dC tQ),tQ⟩⟩ λa18 c18 l18 xs18 hl18 hb18=>Af 10 [2,3] (λb67=>y<|y<|λb68=>λ_=>GG (l:=l18) (oa:=a18) (oc:=c18) (xs:=xs18) 1 0 35 [(qR L rc),qV] [[103,101,116]] (eC CG C C) C C C C C C hl18 hb18 (λw f _ _ D=>⟨D.f2,⟨qN,tQ⟩⟩) ⟨(BS dC dC tQ),⟨kV,tQ⟩⟩ λa19 c19 l19 xs19 hl19 hb19=>?_)))))
 exact Af 11 [2,3,4] (λb69=>y<|y<|y<|λb70=>λ_=>GG (l:=l19) (oa:=a19) (oc:=c19) (xs:=xs19) 1 0 36 [(qR L rc),qV,qU] [[115,101,116]] (eC CG C C) C C C C C C hl19 hb19 (λw f _ _ D=>⟨D.f2,⟨qN,⟨qN,tQ⟩⟩⟩) ⟨(BS dC dC tQ),⟨kV,⟨kU,tQ⟩⟩⟩ λa20 c20 l20 xs20 hl20 hb20=>Af 10 [3,1] (λb71=>y<|y<|λb72=>λ_=>GG (l:=l20) (oa:=a20) (oc:=c20) (xs:=xs20) 1 0 37 [qV,(qP J K)] [[110,101,119]] (eC CG C C) C C C C C C hl20 hb20 (λw f _ _ D=>⟨qN,⟨D.f1,tQ⟩⟩) ⟨kV,⟨(BS dC dC tQ),tQ⟩⟩ λa21 c21 l21 xs21 hl21 hb21=>Af 10 [1,3] (λb73=>y<|y<|λb74=>λ_=>GG (l:=l21) (oa:=a21) (oc:=c21) (xs:=xs21) 1 0 38 [(qP J K),qV] [[108,111,97,100]] (eC CG C C) C C C C C C hl21 hb21 (λw f _ _ D=>⟨D.f1,⟨qN,tQ⟩⟩) ⟨(BS dC dC tQ),⟨kV,tQ⟩⟩ λa22 c22 l22 xs22 hl22 hb22=>Af 11 [1,3,4] (λb75=>y<|y<|y<|λb76=>λ_=>GG (l:=l22) (oa:=a22) (oc:=c22) (xs:=xs22) 1 0 39 [(qP J K),qV,qU] [[115,116,111,114,101]] (eC CG C C) C C C C C C hl22 hb22 (λw f _ _ D=>⟨D.f1,⟨qN,⟨qN,tQ⟩⟩⟩) ⟨(BS dC dC tQ),⟨kV,⟨kU,tQ⟩⟩⟩ λa23 c23 l23 xs23 hl23 hb23=>Aa 4 (λ_=>AK (Cy C C) (λw f D=>let ⟨f2,hE,hF⟩:=HG.done D.res D.f0 D.exm (λb hb=>⟨(D.mi b hb).2.2.elim id (λh=>h.elim),(D.mi b hb).2.1⟩);⟨(a23,c23,l23),f2,C,⟨⟨by rw[hl23];decide,by rw[hl23];decide⟩,hb23⟩,hE,⟨hF,tQ⟩⟩))))))
end Go.Proofs.YtplnpgpagkpnmaaGreatDoor
