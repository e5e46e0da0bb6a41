/- What it rests on, part 6. -/
import Derived.Test.YthofplgbhecdcaaGreatDoorGf5
set_option linter.unusedVariables false
set_option linter.unusedSimpArgs false
namespace Go.Proofs.YthofplgbhecdcaaGreatDoor
open Go.SW Go.SP Go.RowKit
def vB:Ea:=⟨[(54,0,0),(64,0,0),(54,1,1),(54,2,3),(54,4,5),(56,3,3)],[(23,54,6),(52,56,4)],[],[],[(3,false,1),(59,false,1),(56,true,4),(25,true,2),(9,false,1),(54,true,6),(23,false,1),(52,false,1)],[(56,[.int .i64 0,.int .i64 0,.string ⟨#[]⟩,.slice none 0 0]),(54,[.int .i64 0,.int .i64 0,.int .i64 0,.string ⟨#[]⟩,.int .i64 0,.slice none 0 0])],[],[]⟩
theorem Cy:vB.Ok Tryz.prog:=⟨(And.intro IY (And.intro JT (And.intro GJ (And.intro GH (And.intro Ga (And.intro F4 trivial)))))),(And.intro EI (And.intro DI trivial)),trivial,trivial,(And.intro CZ (And.intro HJ (And.intro AJ (And.intro CV (And.intro Hx (And.intro Bc (And.intro EM (And.intro H0 trivial)))))))),(And.intro DD (And.intro G5 trivial)),trivial,trivial⟩
theorem Dk(w:World)(f:Fq)(hv:Vl w f)(A:Ad)(hA:A.ok)(s:CS)(hC:Au 64 130 A s w f)(hf:∀b,BB A b→f b=0)(hw:DR s)(t u:T1)(a:Option Addr)(c:Nat)(a2:Option Addr)(c2:Nat)(hbt:t.bnd)(hbu:u.bnd)(hT:Ah w f t.kids a c)(hU:Ah w f u.kids a2 c2)(ln co:Int) :
  BQ Tryz.prog 18 #[.pointer (some ⟨A.cb,0,none⟩),tV t a c,tV u a2 c2,.agg #[.int .i64 ln,.int .i64 co]] w (Fl (α:=CS) (fun _=>.tuple #[]) (fun x=>F2 s t u ln co=.ok x∧DR x∧x.fresh=s.fresh) (BB A) (fun x=>Au 64 130 A x) (fun _=>[]) w f) (PanE 47 (BB A) (fun er=>F2 s t u ln co=.error er) w f) :=
 (XN w f hv A hA s hC hf hw t u a c a2 c2 hbt hbu hT hU ln co).mono (fun _ _ ⟨x,f2,h1,h2,h3,h4,h5⟩=>⟨{s with sol:=x},f2,h1,⟨h2.1,h2.2,rfl⟩,h3,h4,h5⟩) fun _ _ h=>h
theorem Fk(w:World)(f:Fq)(hv:Vl w f)(A:Ad)(hA:A.ok)(s:CS)(hw:DR s)(pr:Int)(hC:Au 64 130 A s w f)(hS:BL 130 A.sb A.mb s.sol s.fresh pr w f)(hf:∀b,BB A b→f b=0)(hb:s.fresh≤900000000000) :
  BF Tryz.prog 55 #[.pointer (some ⟨A.sb,0,none⟩)] w (Fl (α:=CS) (fun _=>tV (AB s).1 none 0) (fun x=>x=(AB s).2∧DR x∧x.fresh=s.fresh+1) (BB A) (fun x=>Au 64 130 A x) (fun _=>[]) w f) :=
 (Ng w f hv A.sb A.mb _ _ pr hS ⟨hf _ (.inr (.inl rfl)),hf _ (.inr (.inr (.inl rfl)))⟩ hA.sm.1 (by have:=hw.fr;constructor <;> omega)).mono fun v w2 ⟨x,f2,h1,h2,h3,h4,h5⟩=>⟨(AB s).2,f2,h1,⟨rfl,hw.fresh (by have:=hw.fr;omega),rfl⟩,h3.mono Mu.c,hC.solved hA hv (fun b hb=>hf b (Mu.c b hb)) h3 h4,h5⟩
set_option maxHeartbeats 1000000 in
theorem VL(n:Nat)(ih:nQ Tryz.prog 102 47 64 130 n)(w:World)(f:Fq)(hv:Vl w f)(A:Ad)(hA:A.ok)(s:CS)(hC:Au 64 130 A s w f)(hf:∀b,BB A b→f b=0)(hw:DR s)(op ln co nm:Int)(tx:List UInt8)(kids:Nd)(na:Option Addr)(nc:Nat)(e:Bg)(ea:Option Addr)(hm:kids.size<n+1)(hsz:kids.size≤200000)(hN:AK w f kids na nc)(heB:Gg e)(hE:AN w f e ea)(hfb:s.fresh+200001*(kids.size+1)≤800000000000) :
  BQ Tryz.prog 102 #[.pointer (some ⟨A.cb,0,none⟩),.agg #[.int .i64 op,.int .i64 ln,.int .i64 co,S tx,.int .i64 nm,.slice na kids.len nc],.pointer ea] w (Fl (α:=(T1×Option Addr×Nat)×(Bg×Option Addr)×CS) (fun x=>.tuple #[tV x.1.1 x.1.2.1 x.1.2.2,.pointer x.2.1.2]) (fun x=>C6 (n+1) s e op ln co tx nm kids=.ok (x.1.1,x.2.1.1,x.2.2)∧x.1.1.bnd∧Gg x.2.1.1∧DR x.2.2∧x.2.2.fresh≤s.fresh+200001*(kids.size+1)) (BB A) (fun x=>Au 64 130 A x.2.2) (fun x=>[fun w f=>Ah w f x.1.1.kids x.1.2.1 x.1.2.2,fun w f=>AN w f x.2.1.1 x.2.1.2]) w f) (PanE 47 (BB A) (fun er=>C6 (n+1) s e op ln co tx nm kids=.error er) w f):=by
 have hkl:=Nd.len_le kids
 have hfr0:=hw.fr
 refine NT (X:=XC 64 130 A s w f) (H:=[]) (R:=[]) (B:=[]) (Fs:=[fun w f=>AK w f kids na nc,fun w f=>AN w f e ea]) (f:=f) Tryz.func102 rfl rfl rfl (Lz hv hC hf ⟨hN,hE,trivial⟩ ⟨AK.mono,AN.mono,trivial⟩)<|go Cy 26 [2] (fun b1=>fun b2=>fun b3=>y<|fun _=>AZ 19 rfl rfl (fun h1=>?_) (fun h1=>?_))
 refine go Cy 5 [] (fun _=>Fh rfl rfl (fun w f hM=>Al rfl HJ hM.res.blk rfl)<|ZE fun pr=>Ov (α:=CS) (val:=fun _=>tV (AB s).1 none 0) (q:=fun x=>x=(AB s).2∧DR x∧x.fresh=s.fresh+1) (I':=fun x=>Au 64 130 A x) (F':=fun _=>[]) (XX:=fun _ _=>False) rfl rfl (eC K0 rfl rfl) (fun w f hM=>(Fk w f hM.vl A hA s hw pr hM.res.1 hM.res.2 hM.mz oM).retP) (fun _=>Au.stab) (fun _=>trivial) (fun _ _ _ _ _ h=>h.elim) ?_)
 rintro s2 ⟨hs2,hw2,hw2f⟩
 refine go Cy 5 [0] (y<|fun _=>?_)
 have hbp:Dn (C6 n) s e op ln co tx kids=.ok ((AB s).1,e,s2):=by simp only[Dn,h1,Bool.false_eq_true,if_false,if_true];rw[hs2]
 refine go Cy 5 [0,2] (y<|y<|fun _=>DZ rfl rfl (eC FQ rfl rfl) (fun _ h=>h) (fun w f hM=>Cz w f hM.vl A hA s2 hM.res hM.mz hw2 (AB s).1 none 0 (B7 _) (Ah.nil _ _ _ _) ln co) (fun _=>Au.stab) (fun _=>⟨Ah.mono,trivial⟩) (fun er w2 f2 he hE=>⟨rfl,er,f2,rfl,(by rw[C6,hbp];simp only;rw[he]),hE⟩) ?_)
 rintro⟨tf,fa9,fc9⟩ ⟨hfl,-,-⟩
 dsimp only at hfl ⊢
 exact go Cy 11 [0,1] (y<|y<|fun _=>AY (fun w f hM=>Cu rfl (Ac rfl AJ hM.k1 rfl) (Aj rfl)) (fun w f hM=>⟨(((AB s).1,none,0),(e,ea),s2),f,rfl,⟨(by rw[C6,hbp];simp only;rw[hfl]),(B7 _),heB,hw2,by dsimp only;rw[hw2f];omega⟩,hM.exm,hM.res,⟨Ah.nil _ _ _ _,hM.f2,trivial⟩⟩))
 refine go Cy 7 [] (fun _=>AZ 26 rfl rfl (fun h2=>?_) (fun h2=>?_))
 refine go Cy 6 [] (fun _=>Fh rfl rfl (fun w f hM=>Al rfl HJ hM.res.blk rfl)<|ZE fun pr=>Ov (α:=CS) (val:=fun _=>tV (AB s).1 none 0) (q:=fun x=>x=(AB s).2∧DR x∧x.fresh=s.fresh+1) (I':=fun x=>Au 64 130 A x) (F':=fun _=>[]) (XX:=fun _ _=>False) rfl rfl (eC K0 rfl rfl) (fun w f hM=>(Fk w f hM.vl A hA s hw pr hM.res.1 hM.res.2 hM.mz oM).retP) (fun _=>Au.stab) (fun _=>trivial) (fun _ _ _ _ _ h=>h.elim) ?_)
 rintro s2 ⟨hs2,hw2,hw2f⟩
 refine go Cy 11 [0,2,0,2] (y<|y<|y<|y<|fun _=>DZ rfl rfl (eC IH rfl rfl) (fun _ h=>h) (fun w f hM=>Ew w f hM.vl A hA s2 hM.res hM.mz hw2 e ea heB hM.f1 tx (AB s).1 none 0 (B7 _) (Ah.nil _ _ _ _) false ln co) (fun _=>Au.stab) (fun _=>⟨AN.mono,trivial⟩) (fun er w2 f2 he hE=>⟨rfl,er,f2,rfl,(by cases he),hE⟩) ?_)
 rintro⟨e2,ea2⟩ ⟨he2,heB2⟩
 dsimp only at he2 heB2 ⊢
 refine go Cy 5 [] (fun _=>?_)
 have hbp:Dn (C6 n) s e op ln co tx kids=.ok ((AB s).1,e2,s2):=by simp only[Dn,h1,h2,Bool.false_eq_true,if_false,if_true];rw[hs2];cases he2;rfl
 refine go Cy 5 [0,2] (y<|y<|fun _=>DZ rfl rfl (eC FQ rfl rfl) (fun _ h=>h) (fun w f hM=>Cz w f hM.vl A hA s2 hM.res hM.mz hw2 (AB s).1 none 0 (B7 _) (Ah.nil _ _ _ _) ln co) (fun _=>Au.stab) (fun _=>⟨Ah.mono,trivial⟩) (fun er w2 f2 he hE=>⟨rfl,er,f2,rfl,(by rw[C6,hbp];simp only;rw[he]),hE⟩) ?_)
 rintro⟨tf,fa9,fc9⟩ ⟨hfl,-,-⟩
 dsimp only at hfl ⊢
 exact go Cy 11 [0,1] (y<|y<|fun _=>AY (fun w f hM=>Cu rfl (Ac rfl AJ hM.k1 rfl) (Aj rfl)) (fun w f hM=>⟨(((AB s).1,none,0),(e2,ea2),s2),f,rfl,⟨(by rw[C6,hbp];simp only;rw[hfl]),(B7 _),heB2,hw2,by dsimp only;rw[hw2f];omega⟩,hM.exm,hM.res,⟨Ah.nil _ _ _ _,hM.f1,trivial⟩⟩))
 refine go Cy 7 [] (fun _=>AZ 41 rfl rfl (fun h3=>?_) (fun h3=>?_))
 refine go Cy 2 [] (fun _=>B8 rfl rfl (eC B5 rfl rfl) (fun w f hM=>Bx w f hM.vl [105,110,116]) (fun x=>trivial) ?_)
 rintro⟨⟩ -
 refine go Cy 5 [0] (y<|fun _=>?_)
 have hbp:Dn (C6 n) s e op ln co tx kids=.ok ((c0 bI),e,s):=by simp only[Dn,h1,h2,h3,Bool.false_eq_true,if_false,if_true];skip
 refine go Cy 5 [0,2] (y<|y<|fun _=>DZ rfl rfl (eC FQ rfl rfl) (fun _ h=>h) (fun w f hM=>Cz w f hM.vl A hA s hM.res hM.mz hw (c0 bI) none 0 (Df dC) (Ah.nil _ _ _ _) ln co) (fun _=>Au.stab) (fun _=>⟨Ah.mono,trivial⟩) (fun er w2 f2 he hE=>⟨rfl,er,f2,rfl,(by rw[C6,hbp];simp only;rw[he]),hE⟩) ?_)
 rintro⟨tf,fa9,fc9⟩ ⟨hfl,-,-⟩
 dsimp only at hfl ⊢
 exact go Cy 11 [0,1] (y<|y<|fun _=>AY (fun w f hM=>Cu rfl (Ac rfl AJ hM.k1 rfl) (Aj rfl)) (fun w f hM=>⟨(((c0 bI),none,0),(e,ea),s),f,rfl,⟨(by rw[C6,hbp];simp only;rw[hfl]),(Df dC),heB,hw,by dsimp only;omega⟩,hM.exm,hM.res,⟨Ah.nil _ _ _ _,hM.f2,trivial⟩⟩))
 refine go Cy 7 [] (fun _=>AZ 44 rfl rfl (fun h4=>?_) (fun h4=>?_))
 refine go Cy 2 [] (fun _=>B8 rfl rfl (eC B5 rfl rfl) (fun w f hM=>Bx w f hM.vl [115,116,114,105,110,103]) (fun x=>trivial) ?_)
 rintro⟨⟩ -
 refine go Cy 5 [0] (y<|fun _=>?_)
 have hbp:Dn (C6 n) s e op ln co tx kids=.ok ((c0 bS),e,s):=by simp only[Dn,h1,h2,h3,h4,Bool.false_eq_true,if_false,if_true];skip
 refine go Cy 5 [0,2] (y<|y<|fun _=>DZ rfl rfl (eC FQ rfl rfl) (fun _ h=>h) (fun w f hM=>Cz w f hM.vl A hA s hM.res hM.mz hw (c0 bS) none 0 (Df dC) (Ah.nil _ _ _ _) ln co) (fun _=>Au.stab) (fun _=>⟨Ah.mono,trivial⟩) (fun er w2 f2 he hE=>⟨rfl,er,f2,rfl,(by rw[C6,hbp];simp only;rw[he]),hE⟩) ?_)
 rintro⟨tf,fa9,fc9⟩ ⟨hfl,-,-⟩
 dsimp only at hfl ⊢
 exact go Cy 11 [0,1] (y<|y<|fun _=>AY (fun w f hM=>Cu rfl (Ac rfl AJ hM.k1 rfl) (Aj rfl)) (fun w f hM=>⟨(((c0 bS),none,0),(e,ea),s),f,rfl,⟨(by rw[C6,hbp];simp only;rw[hfl]),(Df dC),heB,hw,by dsimp only;omega⟩,hM.exm,hM.res,⟨Ah.nil _ _ _ _,hM.f2,trivial⟩⟩))
 refine go Cy 7 [] (fun _=>AZ 47 rfl rfl (fun h5=>?_) (fun h5=>?_))
 refine go Cy 2 [] (fun _=>B8 rfl rfl (eC B5 rfl rfl) (fun w f hM=>Bx w f hM.vl [117,110,105,116]) (fun x=>trivial) ?_)
 rintro⟨⟩ -
 refine go Cy 5 [0] (y<|fun _=>?_)
 have hbp:Dn (C6 n) s e op ln co tx kids=.ok ((c0 bU),e,s):=by simp only[Dn,h1,h2,h3,h4,h5,Bool.false_eq_true,if_false,if_true];skip
 refine go Cy 5 [0,2] (y<|y<|fun _=>DZ rfl rfl (eC FQ rfl rfl) (fun _ h=>h) (fun w f hM=>Cz w f hM.vl A hA s hM.res hM.mz hw (c0 bU) none 0 (Df dC) (Ah.nil _ _ _ _) ln co) (fun _=>Au.stab) (fun _=>⟨Ah.mono,trivial⟩) (fun er w2 f2 he hE=>⟨rfl,er,f2,rfl,(by rw[C6,hbp];simp only;rw[he]),hE⟩) ?_)
 rintro⟨tf,fa9,fc9⟩ ⟨hfl,-,-⟩
 dsimp only at hfl ⊢
 exact go Cy 11 [0,1] (y<|y<|fun _=>AY (fun w f hM=>Cu rfl (Ac rfl AJ hM.k1 rfl) (Aj rfl)) (fun w f hM=>⟨(((c0 bU),none,0),(e,ea),s),f,rfl,⟨(by rw[C6,hbp];simp only;rw[hfl]),(Df dC),heB,hw,by dsimp only;omega⟩,hM.exm,hM.res,⟨Ah.nil _ _ _ _,hM.f2,trivial⟩⟩))
 refine go Cy 7 [] (fun _=>AZ 50 rfl rfl (fun h6=>?_) (fun h6=>?_))
 refine go Cy 5 [2] (y<|fun _=>DZ rfl rfl (eC Zy rfl rfl) (fun _ h=>h) (fun w f hM=>OC w f hM.vl A hA s hM.res hM.mz hw op ln co nm tx kids na nc oM) (fun _=>Au.stab) (fun _=>⟨Ah.mono,Ah.mono,trivial⟩) (fun er w2 f2 he hE=>⟨rfl,er,f2,rfl,(by rw[C6,show Dn (C6 n) s e op ln co tx kids=.error er by simp only[Dn,h1,h2,h3,h4,h5,h6,Bool.false_eq_true,if_false,if_true];rw[he]]),hE⟩) ?_)
 rintro⟨⟨args,aa,ac⟩,⟨out,oa,oc⟩,s1⟩ ⟨hmk,hal,hab,hob,hw1,hfr1⟩
 dsimp only at hmk hal hab hob hw1 hfr1 ⊢
 refine go Cy 18 [0,3] (fun b4=>y<|y<|fun _=>?_)
 refine H9 (α:=Nat×Nd×Ty×Bg×Option Addr×CS) (fun x=>x.2.1.len) (fun x=>x.1+x.2.1.len=kids.len∧x.2.2.1.len=x.2.1.len∧G7 (C6 n) s1 e args kids=G7 (C6 n) x.2.2.2.2.2 x.2.2.2.1 x.2.2.1 x.2.1∧x.2.2.1.bnd∧Gg x.2.2.2.1∧DR x.2.2.2.2.2∧x.2.1.size≤kids.size∧x.2.2.2.2.2.fresh+200001*x.2.1.size≤s.fresh+200000+200001*kids.size) (fun x=>(vE 0 (.pointer (some ⟨A.cb,0,none⟩)) 2 (.pointer x.2.2.2.2.1) 4 (.pointer (some ⟨b1,0,none⟩)) 6 (.pointer (some ⟨b2,0,none⟩)) 8 (.pointer (some ⟨b3,0,none⟩)) 9 (.slice aa args.len ac) 10 (.pointer (some ⟨b4,0,none⟩)) 59 (.slice na kids.len nc) 60 (.int .i64 (kids.len:Int)) 61 (.int .i64 (x.1:Int)))) (fun x=>⟨BB A,BB A,Au 64 130 A x.2.2.2.2.2,w,f⟩) (fun x=>[⟨b4,tC out oa oc,56,true⟩,⟨b3,[.int .i64 0,.int .i64 0,.string ⟨#[]⟩,.slice none 0 0],56,true⟩,⟨b2,[.int .i64 0,.int .i64 0,.string ⟨#[]⟩,.slice none 0 0],56,true⟩,⟨b1,[.int .i64 op,.int .i64 ln,.int .i64 co,S tx,.int .i64 nm,.slice na kids.len nc],54,true⟩]) (fun x=>[]) (fun x=>[]) (fun x=>[fun w f=>Az w f na x.1 x.2.1,fun w f=>AW w f aa x.1 x.2.2.1,fun w f=>AN w f x.2.2.2.1 x.2.2.2.2.1,fun w f=>Ah w f out.kids oa oc]) (0,kids,args,e,ea,s1) ⟨Nat.zero_add _,hal,rfl,hab,heB,hw1,Nat.le_refl _,by dsimp only;omega⟩ lE (fun w f hM=>hM.more (B':=[]) (F':=[fun w f=>Az w f na 0 kids,fun w f=>AW w f aa 0 args]) nE (A1.mem ⟨AK.at hM.f2,Ah.at hM.f0,trivial⟩) (Af.mem ⟨Az.mono,AW.mono,trivial⟩) |>.less sR sR nE (mR [0,1,5,3])) ?_
 rintro⟨i,r,ar,e4,ea4,s4⟩ ⟨hi,harl,hpc,harb,heB4,hw4,hrs,hfr4⟩
 dsimp only at hi harl hpc harb heB4 hw4 hrs hfr4 ⊢
 refine go Cy 6 [] (fun _=>AZ 62 rfl rfl (fun h7=>?_) (fun h7=>?_))
 refine go Cy 6 [] (fun _=>?_)
 have hil:i<kids.len:=by have:=of_decide_eq_true h7;omega
 obtain⟨op2,ln2,co2,tx2,nm2,k2,r,rfl⟩:=Nd.cases1 r oM
 have hi2:i+(r.len+1)=kids.len:=hi
 have harl2:ar.len=r.len+1:=harl
 obtain⟨t2,ar,rfl⟩:=Ty.cases1 ar oM
 rw[T1.len_cons] at harl2
 have hrs2:k2.size+r.size+1≤kids.size:=hrs
 have hfr5:s4.fresh+200001*((k2.size+r.size+1:Nat):Int)≤s.fresh+200000+200001*kids.size:=hfr4
 refine CB (α:=Nat×Nat×Option Addr×Nat) (fun x=>na=some ⟨x.1,x.2.1,none⟩) (fun x=>[⟨x.1,x.2.1+i*6,F9 op2 ln2 co2 tx2 nm2 x.2.2.1 k2.len x.2.2.2⟩]) (fun x=>[fun w f=>AK w f k2 x.2.2.1 x.2.2.2,fun w f=>Az w f na (i+1) r]) (fun w f hM=>let ⟨b,off,ka,kc,h1,h2,h3,h4⟩:=Az.head hM.f0;⟨(b,off,ka,kc),h1,(oE h2),A1.mem ⟨h3,h4,trivial⟩⟩) (fun x=>Af.mem ⟨AK.mono,Az.mono,trivial⟩) ?_
 rintro⟨eb,eo,ka,kc⟩ rfl
 refine CB (α:=Nat×Nat×Option Addr×Nat) (fun x=>aa=some ⟨x.1,x.2.1,none⟩) (fun x=>[⟨x.1,x.2.1+i*4,tC t2 x.2.2.1 x.2.2.2⟩]) (fun x=>[fun w f=>Ah w f t2.kids x.2.2.1 x.2.2.2,fun w f=>AW w f aa (i+1) ar]) (fun w f hM=>let ⟨b,off,ka,kc,h1,h2,h3,h4⟩:=AW.head hM.f3;⟨(b,off,ka,kc),h1,(oE h2),A1.mem ⟨h3,h4,trivial⟩⟩) (fun x=>Af.mem ⟨Ah.mono,AW.mono,trivial⟩) ?_
 rintro⟨ab,ao,ka2,kc2⟩ rfl
 refine go Cy 19 [101,0,0,1] (And.intro oM<|y2<|fun b5=>y<|fun b6=>y<|fun _=>DZ rfl rfl (eC PE rfl rfl) (fun _ h=>h) (fun w f hM=>ih w f hM.vl A hA s4 hM.res hM.mz hw4 op2 ln2 co2 nm2 tx2 k2 ka kc e4 ea4 oM oM hM.f2 heB4 hM.f6 oM) (fun _=>Au.stab) (fun _=>⟨Ah.mono,AN.mono,trivial⟩) (fun er w2 f2 he hE=>⟨rfl,er,f2,rfl,(by rw[C6,show Dn (C6 n) s e op ln co tx kids=.error er by simp only[Dn,h1,h2,h3,h4,h5,h6,Bool.false_eq_true,if_false,if_true];rw[hmk];simp only;rw[hpc,show G7 (C6 n) s4 e4 (t2.cons ar) (.cons op2 ln2 co2 tx2 nm2 k2 r)=.error er by rw[G7,he]]]),hE⟩) ?_)
 rintro⟨⟨q5,qa,qc⟩,⟨e5,ea5⟩,s5⟩ ⟨hp5,hqb,heB5,hw5,hfr6⟩
 dsimp only at hp5 hqb heB5 hw5 hfr6 ⊢
 refine go Cy 7 [0] (y<|fun _=>Dj [0,1,2,3,4,5] Ap (rd [0,1,2,3,4,5,6,7] (.br 8 .fin .fin)) rfl kR<|AA Cy 8 [100,0,0,1] (And.intro oM<|y2<|y<|y<|fun _=>Ag rfl ?_ Ai))
 refine DZ rfl rfl (eC Gp rfl rfl) (fun _ h=>h) (fun w f hM=>Dk w f hM.vl A hA s5 hM.res hM.mz hw5 t2 q5 ka2 kc2 qa qc (T1.bnd_cons.1 harb).1 hqb hM.f2 hM.f0 ln2 co2) (fun _=>Au.stab) (fun _=>trivial) (fun er w2 f2 he hE=>⟨rfl,er,f2,rfl,(by rw[C6,show Dn (C6 n) s e op ln co tx kids=.error er by simp only[Dn,h1,h2,h3,h4,h5,h6,Bool.false_eq_true,if_false,if_true];rw[hmk];simp only;rw[hpc,show G7 (C6 n) s4 e4 (t2.cons ar) (.cons op2 ln2 co2 tx2 nm2 k2 r)=.error er by rw[G7,hp5];simp only;rw[T1.hd_cons,he]]]),hE⟩) ?_
 rintro s6 ⟨hh6,hw6,hf6⟩
 exact go Cy 1 [] (fun _=>Ax [0,1,2,3,4,5] rfl<|B3<|go Cy 6 [] (And.intro ⟨oM,oM⟩<|fun _=>Eb ((i+1,r,ar,e5,ea5,s6)) (show r.len<(Nd.cons op2 ln2 co2 tx2 nm2 k2 r).len from Nat.lt_succ_self _) ⟨show i+1+r.len=_ by omega,show ar.len=r.len by omega,hpc.trans (Te hp5 hh6),(T1.bnd_cons.1 harb).2,heB5,hw6,show r.size≤_ by omega,show s6.fresh+200001*(r.size:Int)≤_ by omega⟩ lE (fun w f hM=>⟨_,hM.less (.cons _ (.cons _ sR)) sR nE (mR [5,3,1,9])⟩)))
 refine go Cy 3 [] (fun _=>Hc<|go Cy 2 [] (fun _=>?_))
 obtain rfl:r=.nil:=Nd.len0 (by have:=of_decide_eq_false h7;omega)
 have hpc2:G7 (C6 n) s1 e args kids=.ok (e4,s4):=hpc
 have hfr5:s4.fresh≤s.fresh+200000+200001*kids.size:=by have h9:s4.fresh+200001*((0:Nat):Int)≤_:=hfr4;omega
 refine go Cy 7 [0,1] (y<|y<|fun _=>?_)
 have hbp:Dn (C6 n) s e op ln co tx kids=.ok (out,e4,s4):=by simp only[Dn,h1,h2,h3,h4,h5,h6,Bool.false_eq_true,if_false,if_true];rw[hmk];simp only;rw[hpc2]
 refine go Cy 5 [1,3] (y<|y<|fun _=>DZ rfl rfl (eC FQ rfl rfl) (fun _ h=>h) (fun w f hM=>Cz w f hM.vl A hA s4 hM.res hM.mz hw4 out oa oc hob hM.f3 ln co) (fun _=>Au.stab) (fun _=>⟨Ah.mono,trivial⟩) (fun er w2 f2 he hE=>⟨rfl,er,f2,rfl,(by rw[C6,hbp];simp only;rw[he]),hE⟩) ?_)
 rintro⟨tf,fa9,fc9⟩ ⟨hfl,-,-⟩
 dsimp only at hfl ⊢
 exact go Cy 11 [1,2] (y<|y<|fun _=>AY (fun w f hM=>Cu rfl (Ac rfl AJ hM.k2 rfl) (Aj rfl)) (fun w f hM=>⟨((out,oa,oc),(e4,ea4),s4),f,rfl,⟨(by rw[C6,hbp];simp only;rw[hfl]),hob,heB4,hw4,by dsimp only;omega⟩,hM.exm,hM.res,⟨hM.f4,hM.f3,trivial⟩⟩))
 refine go Cy 7 [] (fun _=>AZ 84 rfl rfl (fun h8=>?_) (fun h8=>?_))
 refine go Cy 3 [] (fun _=>B8 rfl rfl (eC B5 rfl rfl) (fun w f hM=>Bx w f hM.vl [116,117,112,108,101]) (fun x=>trivial) ?_)
 rintro⟨⟩ -
 refine go Cy 12 [0,2] (y<|y<|fun _=>QJ 56 4 ?_)
 refine H9 (α:=Nat×Nd×Ty×List Value×Option Addr×Nat×Bg×Option Addr×CS) (fun x=>x.2.1.len) (fun x=>x.1+x.2.1.len=kids.len∧x.2.2.1.len=x.1∧FH (C6 n) s e kids=(match FH (C6 n) x.2.2.2.2.2.2.2.2 x.2.2.2.2.2.2.1 x.2.1 with|.error x=>.error x|.ok (l,e3,s3)=>.ok (x.2.2.1.app l,e3,s3))∧x.2.2.1.bnd∧Gg x.2.2.2.2.2.2.1∧DR x.2.2.2.2.2.2.2.2∧x.2.1.size≤kids.size∧x.2.2.2.2.2.2.2.2.fresh+200001*x.2.1.size≤s.fresh+200001*kids.size) (fun x=>(E8 0 (.pointer (some ⟨A.cb,0,none⟩)) 2 (.pointer x.2.2.2.2.2.2.2.1) 4 (.pointer (some ⟨b1,0,none⟩)) 6 (.pointer (some ⟨b2,0,none⟩)) 8 (.pointer (some ⟨b3,0,none⟩)) 88 (.slice na kids.len nc) 89 (.int .i64 (kids.len:Int)) 90 (.int .i64 (x.1:Int)))) (fun x=>⟨BB A,BB A,Au 64 130 A x.2.2.2.2.2.2.2.2,w,f⟩) (fun x=>[⟨b3,[.int .i64 1,.int .i64 0,S RD,.slice x.2.2.2.2.1 x.1 x.2.2.2.2.2.1],56,true⟩,⟨b2,[.int .i64 0,.int .i64 0,.string ⟨#[]⟩,.slice none 0 0],56,true⟩,⟨b1,[.int .i64 op,.int .i64 ln,.int .i64 co,S tx,.int .i64 nm,.slice na kids.len nc],54,true⟩]) (fun x=>[⟨56,4,x.2.2.2.2.1,x.2.2.2.2.2.1,x.1,x.2.2.2.1⟩]) (fun x=>[]) (fun x=>[fun w f=>Az w f na x.1 x.2.1,fun w f=>Bl w f x.2.2.1 x.2.2.2.1,fun w f=>AN w f x.2.2.2.2.2.2.1 x.2.2.2.2.2.2.2.1]) (0,kids,.nil,[],none,0,e,ea,s) ⟨Nat.zero_add _,rfl,SE,trivial,heB,hw,Nat.le_refl _,by dsimp only;omega⟩ lE (fun w f hM=>hM.more (B':=[]) (F':=[fun w f=>Az w f na 0 kids,fun w f=>Bl w f .nil []]) nE (A1.mem ⟨AK.at hM.f0,rfl,trivial⟩) (Af.mem ⟨Az.mono,Bl.mono,trivial⟩) |>.less sR sR nE (mR [0,1,3])) ?_
 rintro⟨i,r,dn,xs,ra,rc,e4,ea4,s4⟩ ⟨hi,hdl,hpt,hdb,heB4,hw4,hrs,hfr4⟩
 dsimp only at hi hdl hpt hdb heB4 hw4 hrs hfr4 ⊢
 refine go Cy 6 [] (fun _=>AZ 91 rfl rfl (fun h9=>?_) (fun h9=>?_))
 refine go Cy 6 [] (fun _=>?_)
 have hil:i<kids.len:=by have:=of_decide_eq_true h9;omega
 obtain⟨op2,ln2,co2,tx2,nm2,k2,r,rfl⟩:=Nd.cases1 r oM
 have hi2:i+(r.len+1)=kids.len:=hi
 have hrs2:k2.size+r.size+1≤kids.size:=hrs
 have hfr5:s4.fresh+200001*((k2.size+r.size+1:Nat):Int)≤s.fresh+200001*kids.size:=hfr4
 refine CB (α:=Nat×Nat×Option Addr×Nat) (fun x=>na=some ⟨x.1,x.2.1,none⟩) (fun x=>[⟨x.1,x.2.1+i*6,F9 op2 ln2 co2 tx2 nm2 x.2.2.1 k2.len x.2.2.2⟩]) (fun x=>[fun w f=>AK w f k2 x.2.2.1 x.2.2.2,fun w f=>Az w f na (i+1) r]) (fun w f hM=>let ⟨b,off,ka,kc,h1,h2,h3,h4⟩:=Az.head hM.f0;⟨(b,off,ka,kc),h1,(oE h2),A1.mem ⟨h3,h4,trivial⟩⟩) (fun x=>Af.mem ⟨AK.mono,Az.mono,trivial⟩) ?_
 rintro⟨eb,eo,ka,kc⟩ rfl
 refine go Cy 17 [100,0,0,1] (And.intro oM<|y2<|fun b7=>y<|fun b8=>y<|fun _=>DZ rfl rfl (eC PE rfl rfl) (fun _ h=>h) (fun w f hM=>ih w f hM.vl A hA s4 hM.res hM.mz hw4 op2 ln2 co2 nm2 tx2 k2 ka kc e4 ea4 oM oM hM.f0 heB4 hM.f4 oM) (fun _=>Au.stab) (fun _=>⟨Ah.mono,AN.mono,trivial⟩) (fun er w2 f2 he hE=>⟨rfl,er,f2,rfl,(by rw[C6,show Dn (C6 n) s e op ln co tx kids=.error er by simp only[Dn,h1,h2,h3,h4,h5,h6,h8,Bool.false_eq_true,if_false,if_true];rw[hpt,show FH (C6 n) s4 e4 (.cons op2 ln2 co2 tx2 nm2 k2 r)=.error er by rw[FH,he]]]),hE⟩) ?_)
 rintro⟨⟨q5,qa,qc⟩,⟨e5,ea5⟩,s5⟩ ⟨hp5,hqb,heB5,hw5,hfr6⟩
 dsimp only at hp5 hqb heB5 hw5 hfr6 ⊢
 exact go Cy 12 [0,2,0] (y<|y<|y<|fun b9=>fun _=>DH 0 0 rfl rfl Dq rfl rfl rfl rfl rfl rfl rfl rfl (fun _ _=>rfl) oM oM fun ra2 rc2=>go Cy 9 [3] (y<|And.intro ⟨oM,oM⟩<|fun _=>Eb ((i+1,r,dn.snoc q5,xs++tC q5 qa qc,ra2,rc2,e5,ea5,s5)) (show r.len<(Nd.cons op2 ln2 co2 tx2 nm2 k2 r).len from Nat.lt_succ_self _) ⟨show i+1+r.len=_ by omega,show (dn.snoc _).len=i+1 by rw[Ty.len_snoc,hdl],hpt.trans (TA hp5),show (dn.snoc _).bnd from Ty.bnd_snoc hdb hqb,heB5,hw5,show r.size≤_ by omega,show s5.fresh+200001*(r.size:Int)≤_ by omega⟩ lE (fun w f hM=>⟨_,(hM.more (B':=[]) (F':=[fun w f=>Bl w f (dn.snoc q5) (xs++tC q5 qa qc)]) nE (A1.mem ⟨Bl.snoc hM.f0 hM.f5,trivial⟩) (Af.mem ⟨Bl.mono,trivial⟩)).less (.cons _ (.cons _ (.cons _ sR))) sR nE (mR [4,0,2])⟩)))
 refine go Cy 3 [] (fun _=>Hc<|go Cy 4 [] (fun _=>?_))
 obtain rfl:r=.nil:=Nd.len0 (by have:=of_decide_eq_false h9;omega)
 have hpt2:FH (C6 n) s e kids=.ok (dn,e4,s4):=by rw[hpt];show (Except.ok (dn.app .nil,e4,s4):RI (Ty×Bg×CS))=_;rw[Ty.app_nil]
 have hfr5:s4.fresh≤s.fresh+200001*kids.size:=by have h9:s4.fresh+200001*((0:Nat):Int)≤_:=hfr4;omega
 have hdk:dn.len≤200000:=by have:i+0=kids.len:=hi;omega
 subst hdl
 refine QH (fun w f=>Ah w f dn ra rc) Ah.mono (fun w f hM=>HL hM hM.f1) ?_
 have hbp:Dn (C6 n) s e op ln co tx kids=.ok ((.con RD dn),e4,s4):=by simp only[Dn,h1,h2,h3,h4,h5,h6,h8,Bool.false_eq_true,if_false,if_true];rw[hpt2]
 refine go Cy 5 [0,2] (y<|y<|fun _=>DZ rfl rfl (eC FQ rfl rfl) (fun _ h=>h) (fun w f hM=>Cz w f hM.vl A hA s4 hM.res hM.mz hw4 (.con RD dn) ra rc (D0 dC hdk hdb) hM.f0 ln co) (fun _=>Au.stab) (fun _=>⟨Ah.mono,trivial⟩) (fun er w2 f2 he hE=>⟨rfl,er,f2,rfl,(by rw[C6,hbp];simp only;rw[he]),hE⟩) ?_)
 rintro⟨tf,fa9,fc9⟩ ⟨hfl,-,-⟩
 dsimp only at hfl ⊢
 exact go Cy 11 [0,1] (y<|y<|fun _=>AY (fun w f hM=>Cu rfl (Ac rfl AJ hM.k1 rfl) (Aj rfl)) (fun w f hM=>⟨(((.con RD dn),ra,rc),(e4,ea4),s4),f,rfl,⟨(by rw[C6,hbp];simp only;rw[hfl]),(D0 dC hdk hdb),heB4,hw4,by dsimp only;omega⟩,hM.exm,hM.res,⟨hM.f1,hM.f4,trivial⟩⟩))
 refine go Cy 5 [] (fun _=>?_)
 have hbp:Dn (C6 n) s e op ln co tx kids=.ok ((.var 0),e,s):=by simp only[Dn,h1,h2,h3,h4,h5,h6,h8,Bool.false_eq_true,if_false,if_true];skip
 refine go Cy 5 [0,2] (y<|y<|fun _=>DZ rfl rfl (eC FQ rfl rfl) (fun _ h=>h) (fun w f hM=>Cz w f hM.vl A hA s hM.res hM.mz hw (.var 0) none 0 (B7 _) (Ah.nil _ _ _ _) ln co) (fun _=>Au.stab) (fun _=>⟨Ah.mono,trivial⟩) (fun er w2 f2 he hE=>⟨rfl,er,f2,rfl,(by rw[C6,hbp];simp only;rw[he]),hE⟩) ?_)
 rintro⟨tf,fa9,fc9⟩ ⟨hfl,-,-⟩
 dsimp only at hfl ⊢
 exact go Cy 11 [0,1] (y<|y<|fun _=>AY (fun w f hM=>Cu rfl (Ac rfl AJ hM.k1 rfl) (Aj rfl)) (fun w f hM=>⟨(((.var 0),none,0),(e,ea),s),f,rfl,⟨(by rw[C6,hbp];simp only;rw[hfl]),(B7 _),heB,hw,by dsimp only;omega⟩,hM.exm,hM.res,⟨Ah.nil _ _ _ _,hM.f2,trivial⟩⟩))
theorem Rm:∀n,nQ Tryz.prog 102 47 64 130 n
 |0=>fun _ _ _ _ _ _ _ _ _ _ _ _ _ _ _ _ _ _ _ h=>absurd h (Nat.not_lt_zero _)
 |n+1=>fun w f hv A hA s hC hf hw op ln co nm tx kids na nc e ea hm hsz hN heB hE hfb=>VL n (Rm n) w f hv A hA s hC hf hw op ln co nm tx kids na nc e ea hm hsz hN heB hE hfb
def uY:Ea:=⟨[],[(52,56,4)],[],[],[(56,true,4)],[(56,[.int .i64 0,.int .i64 0,.string ⟨#[]⟩,.slice none 0 0])],[],[]⟩
theorem S6:uY.Ok Tryz.prog:=⟨trivial,(And.intro DI trivial),trivial,trivial,(And.intro AJ trivial),(And.intro DD trivial),trivial,trivial⟩
theorem WL(w:World)(f:Fq)(hv:Vl w f)(a:Option Addr)(m c:Nat) :
  BF Tryz.prog 97 #[.slice a m c] w (BV (α:=Nat) (fun b=>.func (.func 120) #[] #[.pointer (some ⟨b,0,none⟩)]) (fun _=>True) (fun b=>[fun w f=>Cs w f b 0 [.slice a m c]]) w f):=by
 exact Dg (X:=X0 w f) (H:=[]) (R:=[]) (B:=[]) (Fs:=[]) (f:=f) Tryz.func97 rfl rfl rfl (C7 hv trivial trivial)<|go S6 8 [] (fun b1=>fun _=>Fh rfl rfl (fun w f hM=>P8 rfl)<|go S6 4 [] (fun _=>Dl 0 rfl rfl<|AY (Dz rfl rfl) (fun w f hM=>⟨b1,f,rfl,trivial,hM.exm,⟨hM.b0,trivial⟩⟩)))
theorem aR(w:World)(f:Fq)(k:Ty)(a:Option Addr)(c m n0 b3 Bs:Nat)(hT:Ah w f k a c)(hm:m≤k.len)(hk:k.len≤200000)(hw0:w.heap.size≤b3)(hBs:Bs<n0)(hBb:Bs≠b3)(hn:w.heap.size≤n0)(w1:World)(hw1:∀j,j<w.heap.size→w1.heap[j]?=w.heap[j]?)(hn1:n0≤w1.heap.size)
  (hc:w1.cell? ⟨Bs,0,none⟩=some (.slice a m c)) (q:Nat) :
  SeqStopsK Fence.wide q Tryz.prog 120 #[.pointer (some ⟨Bs,0,none⟩)] (oQ (w:=w) (f:=f) (k:=k)) (gH n0 b3) (fun xs=>ZB xs=(k.list.take m).reverse) (fun _=>True) m w1:=fun l J Jx W hB _ _ hY h0=>by
 refine callsIn_wide.2 ?_
 have hret:BF Tryz.prog 120 #[.func (.yield l) #[] #[],.pointer (some ⟨Bs,0,none⟩)] W (fun _ W'=>(∃xs,ZB xs=(k.list.take m).reverse∧J xs W')∨(∃pre,True∧Jx pre W')):=by
  refine enter Tryz.func120 rfl rfl rfl ?_
  have hcW:W.cell? ⟨Bs,0,none⟩=some (.slice a m c):=(hB.cell (p:=⟨Bs,0,none⟩) (Nat.lt_of_lt_of_le hBs hn1)).trans hc
  have hWw:∀j,j<w.heap.size→W.heap[j]?=w.heap[j]?:=fun j hj=>(hB.block j oM).trans (hw1 j hj)
  refine Cc (CJ (Aa rfl (JB rfl H0 hcW) (Aa rfl (LX rfl DI) (Aa rfl (He rfl rfl ⟨oM,oM⟩) (Aa rfl (Dm rfl) (Ab (D3 (Eo ?_))))))))
  refine Eh (fun i σ ds W'=>σ=AL (E2 0 (.func (.yield l) #[] #[]) 1 (.pointer (some ⟨Bs,0,none⟩))) 3 (.int .i64 (iv i))∧ds=[]∧i≤m∧gH n0 b3 W W'∧∃pre:List (mK w f k),ZB pre=((k.list.take m).drop i).reverse∧pre.length=m-i∧J pre W') m _ lE ⟨rfl,rfl,Nat.le_refl _,fun _ _ _=>rfl,[],by rw[List.drop_eq_nil_of_le (by rw[List.length_take];exact Nat.min_le_left _ _)];rfl,by simp,h0⟩ ?_
  rintro i σ ds W' ⟨rfl,rfl,him,hkp,pre,hpm,hpl,hJ⟩
  refine Cc (Cc (CJ (Aa rfl (A0 rfl) (Aa rfl (Yv rfl rfl) (Ab (D3<|NY rfl (fun ht=>HW (D3 ?_)) (fun hf=>Lh ?_)))))))
  ·
   obtain⟨j,rfl⟩:∃j,i=j+1:=⟨i-1,by have:=of_decide_eq_true ht;unfold iv at this;omega⟩
   obtain⟨t,ht2⟩:=Up (k:=k) (i:=j) oM
   obtain⟨b,off,ka,kc,ha,hcs,htf⟩:=Ah.nth hT ht2
   subst ha
   have hbw:b<w.heap.size:=IU (hcs 0 _ rfl).2
   have hcW':W'.cell? ⟨Bs,0,none⟩=some (.slice (some ⟨b,off,none⟩) m c):=(El (hkp Bs hBs hBb) 0).trans hcW
   have hce:∀(q:Nat)(v:Value),(tC t ka kc)[q]?=some v→W'.cell? ⟨b,off+(j:Int).toNat*4+q,none⟩=some v:=fun q v hq=>by
    rw[Int.toNat_natCast]
    exact (El ((hkp b oM oM).trans (hWw b hbw)) _).trans (hcs q v hq).2
   have hy:=hY pre ⟨(j,t,ka,kc),ht2,htf⟩ W' hJ oM
   rw[bJ]
   refine Cc (Eo (Cc (Yg (Ge rfl (A0 rfl) (Ge rfl (A0 rfl) (Ge rfl (JB rfl H0 hcW') (Ge rfl (A0 rfl) (Ge rfl (MK rfl rfl DI ⟨oM,oM⟩) (Ge rfl (Lo rfl AJ rfl hce) (TZ rfl rfl rfl hy ?_))))))))))
   rintro e W3 (⟨rfl,hJ3,hk3⟩|⟨rfl,hJx3⟩)
   ·
    refine⟨_,rfl,Ge rfl (Uq rfl) (Si (D3 (Kb rfl rfl (HW (DX (D3 (CJ (Aa rfl (A0 rfl) (Aa rfl (He rfl rfl ⟨oM,oM⟩) (Aa rfl (Dm rfl) (Ab (HA j _ (Nat.lt_succ_self _) lE ⟨rfl,rfl,oM,fun q hq hne=>(hk3 q hq hne).trans (hkp q hq hne),pre++[⟨(j,t,ka,kc),ht2,htf⟩],?_,by simp[hpl];omega,hJ3⟩))))))))))))⟩
    have hjm:j<(k.list.take m).length:=by rw[List.length_take,Ty.list_len];omega
    rw[ZB,List.map_append,List.drop_eq_getElem_cons hjm,List.reverse_cons]
    have hpm2:List.map (fun x=>x.1.2.1) pre=_:=hpm
    rw[hpm2]
    congr 1
    have h9:(k.list.take m)[j]?=some t:=by rw[List.getElem?_take,if_pos (by omega),Ty.list_get,ht2]
    rw[List.getElem?_eq_getElem hjm] at h9
    simpa using h9.symm
   · exact⟨_,rfl,Ge rfl (Uq rfl) (Si (D3 (FW rfl rfl (JX (UR (Vu (Wf (UR (By (DT rfl) (.inr ⟨_,trivial,hJx3⟩))))))))))⟩
  ·
   obtain rfl:i=0:=by have:=of_decide_eq_false hf;unfold iv at this;omega
   exact Vq (Oc (OK (Gu (DT rfl) (.inl ⟨pre,by rw[hpm,List.drop_zero],hJ⟩))))
 exact Calls.mono hret fun e W' ⟨v,he,h⟩=>⟨⟨v,he⟩,h⟩
theorem Yp(w:World)(f:Fq)(hv:Vl w f)(k:Ty)(a:Option Addr)(c m:Nat)(tl:T1)(hk:k.len≤200000)(hm:k.len=m+1)(hg:k.get m=some tl)(hkb:k.bnd)(hT:Ah w f k a c)(b1 b2 Bs:Nat)(ta:Option Addr)(tc:Nat)(z:List Value){Q:Bk}{σ:Bo}{iA iB jB:Nat}{lA lB:List Oper}
  (hA0:VQ lA=true) (hB0:VQ lB=true) (h17:σ 17=some (.func (.func 120) #[] #[.pointer (some ⟨Bs,0,none⟩)])) (h3:σ 3=some (.pointer (some ⟨b2,0,none⟩)))
  (hA:∀(x:mK w f k)(V:World)(f2:Fq)(Qa:Bk),(∀b5,AF Tryz.prog 25 Qa [] (X0 V f2) [] [] [] (.out .normal) [] (E4 3 (.pointer (some ⟨b2,0,none⟩)) 18 (.int .i64 (x.1.1:Int)) 19 (tV x.1.2.1 x.1.2.2.1 x.1.2.2.2) 5 (.pointer (some ⟨b5,0,none⟩))) [⟨b5,tC x.1.2.1 x.1.2.2.1 x.1.2.2.2,56,true⟩]) →
   AF Tryz.prog 25 Qa [] (X0 V f2) [] [] [] (.ops lA lA) [] (E3 3 (.pointer (some ⟨b2,0,none⟩)) 18 (.int .i64 (x.1.1:Int)) 19 (tV x.1.2.1 x.1.2.2.1 x.1.2.2.2)) [])
  (hB:∀(x:mK w f k)(V:World)(f2:Fq)(t:T1)(a2:Option Addr)(c2 b5:Nat)(Qb:Bk),t.bnd→x.1.2.1.bnd→(∀a3 c3 b6 σ',AF Tryz.prog 25 Qb [] ⟨fun b=>b=b2,fun _=>False,fun _ _=>True,V,f2⟩ [] [b6,⟨b5,0,tC x.1.2.1 x.1.2.2.1 x.1.2.2.2⟩] [fun w f=>Ah w f (x.1.2.1.cons t.one) a3 c3,fun w f=>Ah w f t.kids a2 c2,fun w f=>Ah w f x.1.2.1.kids x.1.2.2.1 x.1.2.2.2] (.out .normal) [] σ' [⟨b2,tC (.con G2 (x.1.2.1.cons t.one)) a3 c3,56,false⟩]) →
   AF Tryz.prog 25 Qb [] ⟨fun b=>b=b2,fun _=>False,fun _ _=>True,V,f2⟩ [] [⟨b5,0,tC x.1.2.1 x.1.2.2.1 x.1.2.2.2⟩] [fun w f=>Ah w f t.kids a2 c2,fun w f=>Ah w f x.1.2.1.kids x.1.2.2.1 x.1.2.2.2] (.ops lB lB) [] (E2 3 (.pointer (some ⟨b2,0,none⟩)) 5 (.pointer (some ⟨b5,0,none⟩))) [⟨b2,tC t a2 c2,56,false⟩])
  (W:World) (f1:Fq) (hM:AX (X0 w f) W f1 [⟨b2,tC tl ta tc,56,true⟩,⟨b1,z,56,true⟩] [] [] [fun w f=>Cs w f Bs 0 [.slice a m c],fun w f=>Ah w f tl.kids ta tc])
  (hQ:∀D V f2 a2 c2,T4 w f b1 b2 z 56 (HR k) V f2 a2 c2→w.heap.size≤D→V.heap[D]?=some (.deferred (some []))→Q.q .normal σ [{target:=.collected D,args:=#[]}] V) :
  HK Tryz.prog 25 (.rangeFunc (.tmp 17) #[18,19] (.region iA lA.toArray false) (.block jB (.region iB lB.toArray false))) Q σ [] W:=fun a' ha=>by
 have hblk2:=hM.blk _ (.head _)
 have hblk1:=hM.blk _ (.tail _ (.head _))
 have hn2:w.heap.size≤b2:=hM.hnw _ (.head _) rfl
 have hn1:w.heap.size≤b1:=hM.hnw _ (.tail _ (.head _)) rfl
 have hnd:b2≠b1:=fun e=>by
  have:=hM.nd
  simp[CP,e] at this
 have hcs:Cs W f1 Bs 0 [.slice a m c]:=hM.f0
 have hBlt:Bs<W.heap.size:=IU (hcs 0 _ rfl).2
 have hBb:Bs≠b2:=fun e=>by
  have h9:=(hcs 0 _ rfl).1
  have h8:=(hM.own b2 (.head _)).1
  rw[← e] at h8;omega
 have hI0:T4 w f b1 b2 z 56 tl W (SP.nrm w.heap.size W f1) ta tc:=⟨UL hM.exm,hblk2,hblk1,Ah.nrm hM.f1,HE hkb hg,⟨J2 (hM.own b2 (.head _)).1,J2 (hM.own b1 (.tail _ (.head _))).1⟩,Zq⟩
 refine wpIn_wide.1 (wpIn_rangeFunc_ownH (n:=3) rfl dC (gf:=120) (lb:=#[.pointer (some ⟨Bs,0,none⟩)]) (ha.ev (.tmp 17) _ h17) trivial ZR
  (aR w f k a c m W.heap.size b2 Bs hT oM hk hn2 hBlt hBb hM.exm.stp.size W (fun j hj=>hM.exm.stp.block j hj (fun h=>h)) (Nat.le_refl _) (hcs 0 _ rfl).2 _)
  (fun h1 h2 q hq hne=>(h2 q hq hne).trans (h1 q hq hne)) (fun V l o o' hl ho _ _ q hq hne=>World.putObj_heap_other oM) (Below.refl _ _) (fun _=>rfl)
  (fun pre V=>∃f2 a2 c2,T4 w f b1 b2 z 56 (eN tl (ZB pre)) V f2 a2 c2∧W.heap.size≤V.heap.size) (fun _ _ _=>False)
  (fun s V V' row ⟨f2,a2,c2,h,hs⟩ hg hr=>⟨f2,a2,c2,h.own hM.exm.stp.size hg hr,Nat.le_trans hs hg.size⟩) (fun _ _ _ _ _ h _ _=>h.elim) ⟨_,ta,tc,hI0,Nat.le_refl _⟩
  (fun x a5 V=>∃b5,St 25 (E2 3 (.pointer (some ⟨b2,0,none⟩)) 5 (.pointer (some ⟨b5,0,none⟩))) [] a5∧AQ V b5 (tC x.1.2.1 x.1.2.2.1 x.1.2.2.2) 56∧W.heap.size≤b5)
  (fun x a5 s V V' row ⟨b5,h1,h2,h3⟩ hg hr=>⟨b5,h1,(hg.block b5 h2.lt (fun e=>by obtain⟨_,o,ho,hc⟩:=hr b5 e.symm;exact Ii h2 ho hc)).trans h2,h3⟩)
  ?_ ?_ ?_ (fun _ _ _ _ _ _ h=>h.elim))
 ·
  rintro l pre x V K ⟨f2,a2,c2,hI,hs⟩ hK
  have hst:St 25 (E3 3 (.pointer (some ⟨b2,0,none⟩)) 18 (.int .i64 (x.1.1:Int)) 19 (tV x.1.2.1 x.1.2.2.1 x.1.2.2.2)) [] {tmps:=(a'.tmps.setIfInBounds 18 (.int .i64 (x.1.1:Int))).setIfInBounds 19 (tV x.1.2.1 x.1.2.2.1 x.1.2.2.2),defers:=[]}:=by
   have h1:=((ha.le (vF h3)).put (d:=18) rfl (.int .i64 (x.1.1:Int))).put (d:=19) rfl (tV x.1.2.1 x.1.2.2.1 x.1.2.2.2)
   exact⟨h1.size,rfl,h1.val⟩
  refine wpIn_mono (eW (Q:={q:=fun e σ ds V'=>match e with|.normal=>∀a5,St 25 σ ds a5→K a5 V' | _=>False,p:=fun _ _ _ _=>False}) hA0 Zx (by simpa[oQ] using hst) (hA x V f2 _ (fun b5 V' f3 hM5=>?_) V f2 (C7 hI.exm.val trivial trivial))) ?_
  ·
   intro a5 ha5
   have hE:=hM5.exm
   have hb5:=hM5.blk _ (.head _)
   have hge:V.heap.size≤b5:=hM5.hnw _ (.head _) rfl
   have hE3:CM (fun b=>b=b2) V f2 V' f3:=hE.mono fun _ h=>h.elim
   exact hK a5 V' (KeepsFrom.of_exm hE3 hI.k3) (gH.of_exm hE3 hs) ⟨_,a2,c2,hI.step hn2 (Ne.symm hnd) hE3 ((hE.stp.block b2 hI.k3.lt (fun h=>h)).trans hI.k3) (Ah.mono _ _ _ _ hI.ty (hE.fle hI.exm.val (fun _ h=>h.elim))) hI.bnd,Nat.le_trans hs hE.stp.size⟩ ⟨b5,ha5.le lE,hb5,oM⟩
  ·
   rintro e a5 V' h
   cases e with
   |normal=>obtain⟨σ',ds',hs',h⟩:=h;exact h a5 hs'
   |ret=>obtain⟨_,_,_,h⟩:=h;exact h.elim
   |exit i=>obtain⟨_,_,_,h⟩:=h;exact h.elim
   |goto i=>obtain⟨_,_,_,h⟩:=h;exact h.elim
   |panic c=>obtain⟨_,_,_,h⟩:=h;exact h.elim
   |outgrown=>exact h.elim
 ·
  rintro l pre x a5 V hl-⟨f2,a2,c2,hI,hs⟩ ⟨b5,hst,hb5,h5⟩ hlt
  have hb2W:b2<W.heap.size:=hblk2.lt
  have hb1W:b1<W.heap.size:=hblk1.lt
  have hww:w.heap.size≤W.heap.size:=hM.exm.stp.size
  obtain⟨hI5,hc5⟩:=hI.frz hb5 (show b5≠b1 by omega) (show b5≠b2 by omega) oM
  have hxT:Ah V (fun b=>if b=b5 then max (tC x.1.2.1 x.1.2.2.1 x.1.2.2.2).length (f2 b) else f2 b) x.1.2.1.kids x.1.2.2.1 x.1.2.2.2:=Ah.mono _ _ _ _ x.2.2 (hI5.exm.fle hv (fun _ h=>h.elim))
  have hMb:=(oT hI5.exm.val hI5.k3 hI5.z3.1 (Fs:=[fun w f=>Ah w f (eN tl (ZB pre)).kids a2 c2,fun w f=>Ah w f x.1.2.1.kids x.1.2.2.1 x.1.2.2.2]) ⟨hI5.ty,hxT,trivial⟩ ⟨Ah.mono,Ah.mono,trivial⟩).more (B':=[⟨b5,0,tC x.1.2.1 x.1.2.2.1 x.1.2.2.2⟩]) (F':=[]) (fun e he=>by cases he with|head=>exact hc5|tail _ h=>cases h) nE nE
  refine wpIn_block (wpIn_mono (eW (Q:={q:=fun e σ ds V'=>match e with|.normal=>KeepsFrom W.heap.size V V'∧gH W.heap.size b2 V V'∧∃f2 a2 c2,T4 w f b1 b2 z 56 (eN tl (ZB (pre++[x]))) V' f2 a2 c2∧W.heap.size≤V'.heap.size|_=>False,p:=fun _ _ _ _=>False}) hB0 Zx hst (hB x V _ (eN tl (ZB pre)) a2 c2 b5 _ hI.bnd (HE hkb x.2.1) (fun a3 c3 b6 σ' V' f3 hM5=>?_) V _ hMb)) ?_)
  ·
   have hE:=hM5.exm
   have hTn:=hM5.fact (i:=0) rfl
   refine⟨KeepsFrom.of_exm hE hI.k3,gH.of_exm hE hs,SP.nrm w.heap.size V' f3,a3,c3,?_,Nat.le_trans hs hE.stp.size⟩
   rw[ZB,List.map_append,List.map_cons,List.map_nil,Sf]
   exact hI5.step hn2 (Ne.symm hnd) hE (hM5.blk _ (.head _)) hTn ⟨⟨by simp[T1.kids,T1.len_cons,T1.one,Ty.len],by simp[T1.tx,G2]⟩,T1.bnd_cons.2 ⟨HE hkb x.2.1,GK hI.bnd⟩⟩
  ·
   rintro e a6 V' h
   cases e with
   |normal=>obtain⟨σ',ds',hs',h⟩:=h;exact h
   |ret=>obtain⟨_,_,_,h⟩:=h;exact h.elim
   |exit i=>obtain⟨_,_,_,h⟩:=h;exact h.elim
   |goto i=>obtain⟨_,_,_,h⟩:=h;exact h.elim
   |panic c=>obtain⟨_,_,_,h⟩:=h;exact h.elim
   |outgrown=>exact h.elim
 ·
  rintro D xs V hD hS ⟨f2,a2,c2,hI,-⟩ hK
  have hS2:ZB xs=(k.list.take m).reverse:=hS
  rw[hS2,ZL m k tl hm hg] at hI
  exact⟨σ,_,⟨ha.size,by rw[ha.defs],ha.val⟩,hQ D V f2 a2 c2 hI (Nat.le_trans hM.exm.stp.size hD) hK⟩
theorem VI(w:World)(f:Fq)(hv:Vl w f)(x t:T1)(b:Nat)(hT:Ah w f (x.cons t.one) (some ⟨b,0,none⟩) 2) :
  BF Tryz.prog 20 #[S G2,.slice (some ⟨b,0,none⟩) 2 2] w (BV (α:=Option Addr×Nat) (fun y=>tV (.con G2 (x.cons t.one)) y.1 y.2) (fun _=>True) (fun y=>[fun w f=>Ah w f (x.cons t.one) y.1 y.2]) w f):=by
 have e:(x.cons t.one).len=2:=by simp[T1.len_cons,T1.one,Ty.len]
 have h9:=CU w f hv G2 (x.cons t.one) (some ⟨b,0,none⟩) 2 oM hT
 rw[e] at h9;exact h9
theorem MB(w:World)(f:Fq)(hv:Vl w f)(k:Ty)(a:Option Addr)(c:Nat)(hk0:0<k.len)(hkl:k.len≤200000)(hkb:k.bnd)(hT:Ah w f k a c) :
  BF Tryz.prog 68 #[.slice a k.len c] w (BV (α:=Option Addr×Nat) (fun x=>tV (HR k) x.1 x.2) (fun _=>True) (fun x=>[fun w f=>Ah w f (HR k).kids x.1 x.2]) w f):=by
 refine rX (X:=X0 w f) (H:=[]) (R:=[]) (B:=[]) (Fs:=[fun w f=>Ah w f k a c]) (f:=f) Tryz.func68 rfl rfl rfl (C7 hv ⟨hT,trivial⟩ ⟨Ah.mono,trivial⟩)<|go S6 6 [] (fun b1=>fun _=>?_)
 obtain⟨m,hm⟩:∃m,k.len=m+1:=⟨k.len-1,oM⟩
 obtain⟨tl,htl⟩:=Up (k:=k) (i:=m) oM
 refine CB (α:=Nat×Nat×Option Addr×Nat) (fun x=>a=some ⟨x.1,x.2.1,none⟩) (fun x=>[⟨x.1,x.2.1+((k.len:Int)-1).toNat*4,tC tl x.2.2.1 x.2.2.2⟩]) (fun x=>[fun w f=>Ah w f tl.kids x.2.2.1 x.2.2.2]) (fun w f hM=>let ⟨b,off,ka,kc,h1,h2,h3⟩:=Ah.nth hM.f0 htl;⟨(b,off,ka,kc),h1,(fun e he=>by cases he with|head=>(rw[show ((k.len:Int)-1).toNat=m by omega];exact h2)|tail _ h=>cases h),A1.mem ⟨h3,trivial⟩⟩) (fun x=>Af.mem ⟨Ah.mono,trivial⟩) ?_
 rintro⟨eb,eo,ta,tc⟩ rfl
 refine go S6 18 [100,0,0] (And.intro ⟨oM,oM⟩<|And.intro oM<|y2<|fun b2=>y<|And.intro ⟨oM,oM⟩<|fun _=>Fh rfl rfl (fun w f hM=>NS (i:=m) (show ((k.len:Int)-1)=(m:Int) by omega) rfl rfl DI (by have:=hT.1;omega))<|B8 rfl rfl (eC kN rfl rfl) (fun w f hM=>WL w f hM.vl (some ⟨eb,eo,none⟩) m c) (fun x=>⟨fun _ _ _ _ h hF=>Cs.mono h hF,trivial⟩) ?_)
 rintro Bs -
 refine go S6 3 [] (fun _=>?_)
 intro W f1 hM1
 have hM2:=hM1.less (H':=[⟨b2,tC tl ta tc,56,true⟩,⟨b1,[.int .i64 0,.int .i64 0,.string ⟨#[]⟩,.slice none 0 0],56,true⟩]) (R':=[]) (B':=[]) (F':=[fun w f=>Cs w f Bs 0 [.slice (some ⟨eb,eo,none⟩) m c],fun w f=>Ah w f tl.kids ta tc]) sR sR nE (mR [0,1])
 refine Yp w f hv k _ c m tl hkl hm htl hkb hT b1 b2 Bs ta tc _ rfl rfl rfl rfl (fun x V f2 Qa hcont=>?_) (fun x V f2 t a2 c2 b5 Qb htb hxb hcont=>?_) W f1 hM2 (fun D V f2 a2 c2 hI hD hK=>?_)
 · exact go S6 3 [0] (fun b5=>y<|fun _=>hcont b5)
 ·
  refine go S6 3 [100,0,0] (y2<|y<|fun b6=>fun _=>?_)
  refine Dl 0 rfl rfl<|B4 (fun w f=>Ah w f (x.1.2.1.cons t.one) (some ⟨b6,0,none⟩) 2) (fun w f hM=>YJ hM.b0 hM.f1 hM.f0) Ah.mono<|B8 rfl rfl (eC B5 rfl rfl) (fun w f hM=>VI w f hM.vl x.1.2.1 t b6 hM.f0) (fun _=>⟨Ah.mono,trivial⟩) ?_
  rintro⟨a3,c3⟩ -
  exact go S6 2 [0] (y<|fun _=>fun w9 f9 hM9=>hcont a3 c3 _ _ w9 f9 (hM9.less sR sR (fun _ h=>h) (fun φ h=>by rcases List.mem_cons.1 h with rfl|h;exact .head _;exact .tail _ (.tail _ h))))
 have hD1:w.heap.size≤b1:=hM1.hnw _ (.tail _ (.head _)) rfl
 have hD2:w.heap.size≤b2:=hM1.hnw _ (.head _) rfl
 have hne:b2≠b1:=fun e=>by have:=hM1.nd;simp[CP,e] at this
 refine DX (D3 (Cc (CJ (Aa rfl (Dt rfl AJ hI.k3 rfl) (A4 rfl rfl rfl AJ rfl hI.k2 rfl rfl fun V2 hb2 hC=>Ab (D3 (JX ?_)))))))
 obtain⟨h1,h2,h3,h4⟩:=hI.fin hD1 hD hK hC
 exact⟨D,rfl,h3,_,AI rfl (Ac rfl AJ (show AQ _ b1 _ 56 from (World.putObj_heap_other (Ne.symm h4)).trans hb2) rfl),(a2,c2),f2,rfl,trivial,h1,h2,trivial⟩
def qA:Ea:=⟨[(54,1,1),(64,0,0),(54,4,5),(54,2,3)],[(23,54,6),(52,56,4)],[],[],[(54,true,6),(56,true,4),(25,true,2),(59,false,1),(23,false,1),(9,false,1)],[(54,[.int .i64 0,.int .i64 0,.int .i64 0,.string ⟨#[]⟩,.int .i64 0,.slice none 0 0]),(56,[.int .i64 0,.int .i64 0,.string ⟨#[]⟩,.slice none 0 0])],[],[]⟩
theorem CL:qA.Ok Tryz.prog:=⟨(And.intro GJ (And.intro JT (And.intro Ga (And.intro GH trivial)))),(And.intro EI (And.intro DI trivial)),trivial,trivial,(And.intro Bc (And.intro AJ (And.intro CV (And.intro HJ (And.intro EM (And.intro Hx trivial)))))),(And.intro G5 (And.intro DD trivial)),trivial,trivial⟩
theorem Pn(n:Nat)(ih:Wg Tryz.prog 19 47 64 130 n)(w:World)(f:Fq)(hv:Vl w f)(A:Ad)(hA:A.ok)(s:CS)(hC:Au 64 130 A s w f)(hf:∀b,BB A b→f b=0)(hw:DR s)(nds:Nd)(na:Option Addr)(nc:Nat)(e:Bg)(ea:Option Addr)(hm:nds.size≤n)(hsz:nds.size≤200000)(hwf:nds.wfm 0)(hN:AK w f nds na nc)(heB:Gg e)(hE:AN w f e ea)(hfb:s.fresh+200002*nds.size≤800000000000) :
  BQ Tryz.prog 75 #[.pointer (some ⟨A.cb,0,none⟩),.slice na nds.len nc,.pointer ea] w (Fl (α:=(Ty×Option Addr×Nat)×CS) (fun x=>.slice x.1.2.1 x.1.1.len x.1.2.2) (fun x=>EH (Co n) e s nds=.ok (x.1.1,x.2)∧x.1.1.len=nds.len∧x.1.1.bnd∧DR x.2∧x.2.fresh≤s.fresh+200002*nds.size) (BB A) (fun x=>Au 64 130 A x.2) (fun x=>[fun w f=>Ah w f x.1.1 x.1.2.1 x.1.2.2]) w f) (PanE 47 (BB A) (fun er=>EH (Co n) e s nds=.error er) w f):=by
 have hkl:=Nd.len_le nds
 have hfr0:=hw.fr
 refine NT (X:=XC 64 130 A s w f) (H:=[]) (R:=[]) (B:=[]) (Fs:=[fun w f=>AK w f nds na nc,fun w f=>AN w f e ea]) (f:=f) Tryz.func75 rfl rfl rfl (Lz hv hC hf ⟨hN,hE,trivial⟩ ⟨AK.mono,AN.mono,trivial⟩)<|go CL 19 [] (fun _=>QJ 56 4 ?_)
 refine H9 (α:=Nat×Nd×Ty×List Value×Option Addr×Nat×CS) (fun x=>x.2.1.len) (fun x=>x.1+x.2.1.len=nds.len∧x.2.2.1.len=x.1∧EH (Co n) e s nds=(match EH (Co n) e x.2.2.2.2.2.2 x.2.1 with|.error x=>.error x|.ok (l,s3)=>.ok (x.2.2.1.app l,s3))∧x.2.2.1.bnd∧x.2.1.wfm 0∧DR x.2.2.2.2.2.2∧x.2.1.size≤nds.size∧x.2.2.2.2.2.2.fresh+200002*x.2.1.size≤s.fresh+200002*nds.size) (fun x=>(E6 0 (.pointer (some ⟨A.cb,0,none⟩)) 2 (.pointer ea) 7 (.slice x.2.2.2.2.1 x.1 x.2.2.2.2.2.1) 10 (.slice na nds.len nc) 11 (.int .i64 (nds.len:Int)) 12 (.int .i64 (x.1:Int)))) (fun x=>⟨BB A,BB A,Au 64 130 A x.2.2.2.2.2.2,w,f⟩) (fun x=>[]) (fun x=>[⟨56,4,x.2.2.2.2.1,x.2.2.2.2.2.1,x.1,x.2.2.2.1⟩]) (fun x=>[]) (fun x=>[fun w f=>Az w f na x.1 x.2.1,fun w f=>Bl w f x.2.2.1 x.2.2.2.1,fun w f=>AN w f e ea]) (0,nds,.nil,[],none,0,s) ⟨Nat.zero_add _,rfl,RO,trivial,hwf,hw,Nat.le_refl _,by dsimp only;omega⟩ lE (fun w f hM=>hM.more (B':=[]) (F':=[fun w f=>Az w f na 0 nds,fun w f=>Bl w f .nil []]) nE (A1.mem ⟨AK.at hM.f0,rfl,trivial⟩) (Af.mem ⟨Az.mono,Bl.mono,trivial⟩) |>.less sR sR nE (mR [0,1,3])) ?_
 rintro⟨i,r,dn,xs,ra,rc,s4⟩ ⟨hi,hdl,hea,hdb,hwf,hw4,hrs,hfr4⟩
 dsimp only at hi hdl hea hdb hwf hw4 hrs hfr4 ⊢
 refine go CL 6 [] (fun _=>AZ 13 rfl rfl (fun h1=>?_) (fun h1=>?_))
 refine go CL 6 [] (fun _=>?_)
 have hil:i<nds.len:=by have:=of_decide_eq_true h1;omega
 obtain⟨op2,ln2,co2,tx2,nm2,k2,r,rfl⟩:=Nd.cases1 r oM
 have hi2:i+(r.len+1)=nds.len:=hi
 have hrs2:k2.size+r.size+1≤nds.size:=hrs
 rw[gS] at hwf
 have hfr5:s4.fresh+200002*((k2.size+r.size+1:Nat):Int)≤s.fresh+200002*nds.size:=hfr4
 refine CB (α:=Nat×Nat×Option Addr×Nat) (fun x=>na=some ⟨x.1,x.2.1,none⟩) (fun x=>[⟨x.1,x.2.1+i*6,F9 op2 ln2 co2 tx2 nm2 x.2.2.1 k2.len x.2.2.2⟩]) (fun x=>[fun w f=>AK w f k2 x.2.2.1 x.2.2.2,fun w f=>Az w f na (i+1) r]) (fun w f hM=>let ⟨b,off,ka,kc,h1,h2,h3,h4⟩:=Az.head hM.f0;⟨(b,off,ka,kc),h1,(oE h2),A1.mem ⟨h3,h4,trivial⟩⟩) (fun x=>Af.mem ⟨AK.mono,Az.mono,trivial⟩) ?_
 rintro⟨eb,eo,ka,kc⟩ rfl
 refine go CL 12 [100,0,0,0] (And.intro oM<|y2<|fun b1=>y<|y<|fun _=>DZ rfl rfl (eC CX rfl rfl) (fun _ h=>h) (fun w f hM=>ih w f hM.vl A hA s4 hM.res hM.mz hw4 op2 ln2 co2 nm2 tx2 k2 ka kc e ea oM oM hwf.1 hM.f0 heB hM.f4 oM) (fun _=>Au.stab) (fun _=>⟨Ah.mono,trivial⟩) (fun er w2 f2 he hE=>⟨rfl,er,f2,rfl,(by rw[hea,show EH (Co n) e s4 (.cons op2 ln2 co2 tx2 nm2 k2 r)=.error er by rw[EH,he]]),hE⟩) ?_)
 rintro⟨⟨q5,qa,qc⟩,s5⟩ ⟨hp5,hqb,hw5,hf5⟩
 dsimp only at hp5 hqb hw5 hf5 ⊢
 exact go CL 1 [] (fun b2=>fun _=>DH 0 0 rfl rfl Dq rfl rfl rfl rfl rfl rfl rfl rfl (fun _ _=>rfl) oM oM fun ra2 rc2=>go CL 8 [] (And.intro ⟨oM,oM⟩<|fun _=>Eb ((i+1,r,dn.snoc q5,xs++tC q5 qa qc,ra2,rc2,s5)) (show r.len<(Nd.cons op2 ln2 co2 tx2 nm2 k2 r).len from Nat.lt_succ_self _) ⟨show i+1+r.len=_ by omega,show (dn.snoc _).len=i+1 by rw[Ty.len_snoc,hdl],hea.trans (Ua hp5),show (dn.snoc _).bnd from Ty.bnd_snoc hdb hqb,hwf.2,hw5,show r.size≤_ by omega,show s5.fresh+200002*(r.size:Int)≤_ by omega⟩ lE (fun w f hM=>⟨_,(hM.more (B':=[]) (F':=[fun w f=>Bl w f (dn.snoc q5) (xs++tC q5 qa qc)]) nE (A1.mem ⟨Bl.snoc hM.f0 hM.f4,trivial⟩) (Af.mem ⟨Bl.mono,trivial⟩)).less (.cons _ (.cons _ sR)) sR nE (mR [3,0,6])⟩)))
 refine go CL 3 [] (fun _=>Hc<|go CL 3 [] (fun _=>?_))
 obtain rfl:r=.nil:=Nd.len0 (by have:=of_decide_eq_false h1;omega)
 have hea2:EH (Co n) e s nds=.ok (dn,s4):=by rw[hea];show (Except.ok (dn.app .nil,s4):RI (Ty×CS))=_;rw[Ty.app_nil]
 have hfr5:s4.fresh≤s.fresh+200002*nds.size:=by have h9:s4.fresh+200002*((0:Nat):Int)≤_:=hfr4;omega
 have hdk:dn.len=nds.len:=by have:i+0=nds.len:=hi;omega
 subst hdl
 exact QH (fun w f=>Ah w f dn ra rc) Ah.mono (fun w f hM=>HL hM hM.f1)<|go CL 6 [] (fun _=>AY (Dz rfl rfl) (fun w f hM=>⟨((dn,ra,rc),s4),f,rfl,⟨hea2,hdk,hdb,hw4,hfr5⟩,hM.exm,hM.res,⟨hM.f0,trivial⟩⟩))
theorem Wh(n:Nat)(ihb:∀ (w:World) (f:Fq) (hv:Vl w f) (A:Ad) (hA:A.ok) (s:CS) (hC:Au 64 130 A s w f) (hf:∀b,BB A b→f b=0) (hw:DR s) (op ln co nm:Int) (tx:List UInt8) (kids:Nd) (na:Option Addr) (nc:Nat) (e:Bg) (ea:Option Addr),kids.size<n+1→kids.size≤200000→GY op kids→AK w f kids na nc→Gg e→AN w f e ea→s.fresh+200002*(kids.size+1)≤800000000000→BQ Tryz.prog 49 #[.pointer (some ⟨A.cb,0,none⟩),.agg #[.int .i64 op,.int .i64 ln,.int .i64 co,S tx,.int .i64 nm,.slice na kids.len nc],.pointer ea] w (Fl (α:=(T1×Option Addr×Nat)×CS) (fun x=>tV x.1.1 x.1.2.1 x.1.2.2) (fun x=>Bp n (Co n) s e op ln co tx kids=.ok (x.1.1,x.2)∧x.1.1.bnd∧DR x.2∧x.2.fresh+1≤s.fresh+200002*(kids.size+1)) (BB A) (fun x=>Au 64 130 A x.2) (fun x=>[fun w f=>Ah w f x.1.1.kids x.1.2.1 x.1.2.2]) w f) (PanE 47 (BB A) (fun er=>Bp n (Co n) s e op ln co tx kids=.error er) w f))(w:World)(f:Fq)(hv:Vl w f)(A:Ad)(hA:A.ok)(s:CS)(hC:Au 64 130 A s w f)(hf:∀b,BB A b→f b=0)(hw:DR s)(op ln co nm:Int)(tx:List UInt8)(kids:Nd)(na:Option Addr)(nc:Nat)(e:Bg)(ea:Option Addr)(hm:kids.size<n+1)(hsz:kids.size≤200000)(hwf:GY op kids)(hN:AK w f kids na nc)(heB:Gg e)(hE:AN w f e ea)(hfb:s.fresh+200002*(kids.size+1)≤800000000000) :
  BQ Tryz.prog 19 #[.pointer (some ⟨A.cb,0,none⟩),.agg #[.int .i64 op,.int .i64 ln,.int .i64 co,S tx,.int .i64 nm,.slice na kids.len nc],.pointer ea] w (Fl (α:=(T1×Option Addr×Nat)×CS) (fun x=>tV x.1.1 x.1.2.1 x.1.2.2) (nL (n+1) s e op ln co tx nm kids) (BB A) (fun x=>Au 64 130 A x.2) (fun x=>[fun w f=>Ah w f x.1.1.kids x.1.2.1 x.1.2.2]) w f) (PanE 47 (BB A) (fun er=>Co (n+1) s e op ln co tx nm kids=.error er) w f):=by
 refine NT (X:=XC 64 130 A s w f) (H:=[]) (R:=[]) (B:=[]) (Fs:=[fun w f=>AK w f kids na nc,fun w f=>AN w f e ea]) (f:=f) Tryz.func19 rfl rfl rfl (Lz hv hC hf ⟨hN,hE,trivial⟩ ⟨AK.mono,AN.mono,trivial⟩)<|go CL 11 [1] (fun b1=>fun b2=>y<|fun _=>DZ rfl rfl (eC jK rfl rfl) (fun _ h=>h) (fun w f hM=>ihb w f hM.vl A hA s hM.res hM.mz hw op ln co nm tx kids na nc e ea hm hsz hwf hM.f0 heB hM.f1 hfb) (fun _=>Au.stab) (fun _=>⟨Ah.mono,trivial⟩) (fun er w2 f2 he hE=>⟨rfl,er,f2,rfl,(by rw[Co,he]),hE⟩) ?_)
 rintro⟨⟨t,ta,tc⟩,s1⟩ ⟨hbr,htb,hw1,hf1⟩
 dsimp only at hbr htb hw1 hf1 ⊢
 refine go CL 10 [0,0,2] (fun b3=>y<|y<|y<|fun _=>DZ rfl rfl (eC FQ rfl rfl) (fun _ h=>h) (fun w f hM=>Cz w f hM.vl A hA s1 hM.res hM.mz hw1 t ta tc htb hM.f0 ln co) (fun _=>Au.stab) (fun _=>⟨Ah.mono,trivial⟩) (fun er w2 f2 he hE=>⟨rfl,er,f2,rfl,(by rw[Co,hbr];simp only;rw[he]),hE⟩) ?_)
 rintro⟨tf,fa9,fc9⟩ ⟨hfl,-,-⟩
 dsimp only at hfl ⊢
 exact go CL 9 [0,1] (y<|y<|fun _=>AY (fun w f hM=>AI rfl (Ac rfl AJ hM.k1 rfl)) (fun w f hM=>⟨((t,ta,tc),s1),f,rfl,⟨(by rw[Co,hbr];simp only;rw[hfl]),htb,hw1,hf1⟩,hM.exm,hM.res,⟨hM.f1,trivial⟩⟩))
theorem RT(n:Nat)(ih:Wg Tryz.prog 19 47 64 130 n)(w:World)(f:Fq)(hv:Vl w f)(A:Ad)(hA:A.ok)(s:CS)(hC:Au 64 130 A s w f)(hf:∀b,BB A b→f b=0)(hw:DR s)(op ln co nm:Int)(tx:List UInt8)(op2 ln2 co2 nm2:Int)(tx2:List UInt8)(k2 r:Nd)(na:Option Addr)(nc:Nat)(e:Bg)(ea:Option Addr)(hm:k2.size<n)(hsz:k2.size≤200000)(hwf:GY op2 k2)(hN:AK w f (.cons op2 ln2 co2 tx2 nm2 k2 r) na nc)(heB:Gg e)(hE:AN w f e ea)(hfb:s.fresh+200002*(k2.size+2)≤800000000000) :
  BQ Tryz.prog 23 #[.pointer (some ⟨A.cb,0,none⟩),.agg #[.int .i64 op,.int .i64 ln,.int .i64 co,S tx,.int .i64 nm,.slice na (Nd.cons op2 ln2 co2 tx2 nm2 k2 r).len nc],.pointer ea] w (Fl (α:=(T1×Option Addr×Nat)×CS) (fun x=>tV x.1.1 x.1.2.1 x.1.2.2) (fun x=>H8 (Co n) s e ln co tx op2 ln2 co2 tx2 nm2 k2=.ok (x.1.1,x.2)∧x.1.1.bnd∧DR x.2∧x.2.fresh≤s.fresh+200002*(k2.size+1)) (BB A) (fun x=>Au 64 130 A x.2) (fun x=>[fun w f=>Ah w f x.1.1.kids x.1.2.1 x.1.2.2]) w f) (PanE 47 (BB A) (fun er=>H8 (Co n) s e ln co tx op2 ln2 co2 tx2 nm2 k2=.error er) w f):=by
 have hfr0:=hw.fr
 have hkl:0<(Nd.cons op2 ln2 co2 tx2 nm2 k2 r).len:=Nat.succ_pos _
 refine NT (X:=XC 64 130 A s w f) (H:=[]) (R:=[]) (B:=[]) (Fs:=[fun w f=>AK w f (.cons op2 ln2 co2 tx2 nm2 k2 r) na nc,fun w f=>AN w f e ea]) (f:=f) Tryz.func23 rfl rfl rfl (Lz hv hC hf ⟨hN,hE,trivial⟩ ⟨AK.mono,AN.mono,trivial⟩)<|go CL 11 [] (fun b1=>fun b2=>fun _=>Fh rfl rfl (fun w f hM=>Al rfl HJ hM.res.blk rfl)<|ZE fun pr=>Ov (α:=CS) (val:=fun _=>tV (AB s).1 none 0) (q:=fun x=>x=(AB s).2∧DR x∧x.fresh=s.fresh+1) (I':=fun x=>Au 64 130 A x) (F':=fun _=>[]) (XX:=fun _ _=>False) rfl rfl (eC K0 rfl rfl) (fun w f hM=>(Fk w f hM.vl A hA s hw pr hM.res.1 hM.res.2 hM.mz oM).retP) (fun _=>Au.stab) (fun _=>trivial) (fun _ _ _ _ _ h=>h.elim) ?_)
 rintro s1 ⟨hs1,hw1,hw1f⟩
 refine go CL 5 [0] (fun b3=>y<|fun _=>B4 (fun w f=>Az w f na 0 (.cons op2 ln2 co2 tx2 nm2 k2 r)) (fun w f hM=>AK.at hM.f0) Az.mono<|CB (α:=Nat×Nat×Option Addr×Nat) (fun x=>na=some ⟨x.1,x.2.1,none⟩) (fun x=>[⟨x.1,x.2.1+0*6,F9 op2 ln2 co2 tx2 nm2 x.2.2.1 k2.len x.2.2.2⟩]) (fun x=>[fun w f=>AK w f k2 x.2.2.1 x.2.2.2,fun w f=>Az w f na 1 r]) (fun w f hM=>let ⟨b,off,ka,kc,h1,h2,h3,h4⟩:=Az.head hM.f0;⟨(b,off,ka,kc),h1,(oE h2),A1.mem ⟨h3,h4,trivial⟩⟩) (fun x=>Af.mem ⟨AK.mono,Az.mono,trivial⟩) ?_)
 rintro⟨eb,eo,ka,kc⟩ rfl
 refine Dj [0,1,2] Ap (rd [0,1,2,3,4,5,6,7,8,9,10,11] (.br 12 (.br 13 (.br 14 (.br 15 .fin .fin) .fin) (.br 14 (.br 13 (.br 15 .fin .fin) .fin) .fin)) (.br 14 (.br 12 (.br 13 (.br 15 .fin .fin) .fin) .fin) .fin))) rfl kR<|AA CL 12 [2,100,0,2,0,2] (y<|And.intro oM<|y2<|y<|y<|y<|fun _=>Ag rfl ?_ ?_)
 refine DZ rfl rfl (eC IH rfl rfl) (fun _ h=>h) (fun w f hM=>Ew w f hM.vl A hA s1 hM.res hM.mz hw1 e ea heB hM.f4 tx (AB s).1 none 0 (B7 _) (Ah.nil _ _ _ _) false ln co) (fun _=>Au.stab) (fun _=>⟨AN.mono,trivial⟩) (fun er w2 f2 he hE=>⟨rfl,er,f2,rfl,(by cases he),hE⟩) ?_
 rintro⟨e2,ea2⟩ ⟨he2,heB2⟩
 dsimp only at he2 heB2 ⊢
 have hee:e2=⟨tx,(AB s).1,[]⟩::e:=by cases he2;rfl
 refine go CL 1 [] (fun _=>Ax [0,1,2] rfl<|Ag rfl ?_ ?_)
 refine DZ rfl rfl (eC CX rfl rfl) (fun _ h=>h) (fun w f hM=>ih w f hM.vl A hA s1 hM.res hM.mz hw1 op2 ln2 co2 nm2 tx2 k2 ka kc e2 ea2 oM oM hwf hM.f1 heB2 hM.f0 oM) (fun _=>Au.stab) (fun _=>⟨Ah.mono,trivial⟩) (fun er w2 f2 he hE=>⟨rfl,er,f2,rfl,(by rw[H8,← hs1,← hee,he]),hE⟩) ?_
 rintro⟨⟨t,ta,tc⟩,s2⟩ ⟨hp2,htb,hw2,hf2⟩
 dsimp only at hp2 htb hw2 hf2 ⊢
 refine go CL 1 [] (fun _=>Ax [0,1,2] rfl<|Ag rfl ?_ Ai)
 refine go CL 2 [] (fun b4=>fun _=>Ax [1,2,3] rfl<|Ag rfl ?_ Ai)
 refine go CL 2 [0] (y<|fun _=>Ax [1,2,3] rfl<|B3<|go CL 8 [1,0,3] (y<|y<|y<|fun _=>DZ rfl rfl (eC Gp rfl rfl) (fun _ h=>h) (fun w f hM=>Dk w f hM.vl A hA s2 hM.res hM.mz hw2 (AB s).1 t none 0 ta tc (B7 _) htb (Ah.nil _ _ _ _) hM.f0 ln co) (fun _=>Au.stab) (fun _=>trivial) (fun er w2 f2 he hE=>⟨rfl,er,f2,rfl,(by rw[H8,← hs1,← hee,hp2];simp only;rw[he]),hE⟩) ?_))
 rintro s3 ⟨hh3,hw3,hf3⟩
 exact go CL 9 [0,2] (y<|y<|fun _=>AY (fun w f hM=>AI rfl (Ac rfl AJ hM.k2 rfl)) (fun w f hM=>⟨((t,ta,tc),s3),f,rfl,⟨(by rw[H8,← hs1,← hee,hp2];simp only;rw[hh3]),htb,hw3,by dsimp only;rw[hf3];omega⟩,hM.exm,hM.res,⟨hM.f0,trivial⟩⟩))
 refine Ag rfl ?_ Ai
 refine go CL 2 [] (fun b5=>fun _=>Ax [1,2,3] rfl<|Ag rfl ?_ Ai)
 refine DZ rfl rfl (eC CX rfl rfl) (fun _ h=>h) (fun w f hM=>ih w f hM.vl A hA s1 hM.res hM.mz hw1 op2 ln2 co2 nm2 tx2 k2 ka kc e2 ea2 oM oM hwf hM.f1 heB2 hM.f0 oM) (fun _=>Au.stab) (fun _=>⟨Ah.mono,trivial⟩) (fun er w2 f2 he hE=>⟨rfl,er,f2,rfl,(by rw[H8,← hs1,← hee,he]),hE⟩) ?_
 rintro⟨⟨t,ta,tc⟩,s2⟩ ⟨hp2,htb,hw2,hf2⟩
 dsimp only at hp2 htb hw2 hf2 ⊢
 refine go CL 1 [] (fun _=>Ax [1,2,3] rfl<|Ag rfl ?_ Ai)
 refine go CL 2 [0] (y<|fun _=>Ax [1,2,3] rfl<|B3<|go CL 8 [1,0,3] (y<|y<|y<|fun _=>DZ rfl rfl (eC Gp rfl rfl) (fun _ h=>h) (fun w f hM=>Dk w f hM.vl A hA s2 hM.res hM.mz hw2 (AB s).1 t none 0 ta tc (B7 _) htb (Ah.nil _ _ _ _) hM.f0 ln co) (fun _=>Au.stab) (fun _=>trivial) (fun er w2 f2 he hE=>⟨rfl,er,f2,rfl,(by rw[H8,← hs1,← hee,hp2];simp only;rw[he]),hE⟩) ?_))
 rintro s3 ⟨hh3,hw3,hf3⟩
 exact go CL 9 [0,2] (y<|y<|fun _=>AY (fun w f hM=>AI rfl (Ac rfl AJ hM.k2 rfl)) (fun w f hM=>⟨((t,ta,tc),s3),f,rfl,⟨(by rw[H8,← hs1,← hee,hp2];simp only;rw[hh3]),htb,hw3,by dsimp only;rw[hf3];omega⟩,hM.exm,hM.res,⟨hM.f0,trivial⟩⟩))
 refine Ag rfl ?_ Ai
 refine go CL 2 [] (fun b6=>fun _=>Ax [1,2,3] rfl<|Ag rfl ?_ Ai)
 refine DZ rfl rfl (eC IH rfl rfl) (fun _ h=>h) (fun w f hM=>Ew w f hM.vl A hA s1 hM.res hM.mz hw1 e ea heB hM.f4 tx (AB s).1 none 0 (B7 _) (Ah.nil _ _ _ _) false ln co) (fun _=>Au.stab) (fun _=>⟨AN.mono,trivial⟩) (fun er w2 f2 he hE=>⟨rfl,er,f2,rfl,(by cases he),hE⟩) ?_
 rintro⟨e2,ea2⟩ ⟨he2,heB2⟩
 dsimp only at he2 heB2 ⊢
 have hee:e2=⟨tx,(AB s).1,[]⟩::e:=by cases he2;rfl
 refine go CL 1 [] (fun _=>Ax [1,2,3] rfl<|Ag rfl ?_ Ai)
 refine DZ rfl rfl (eC CX rfl rfl) (fun _ h=>h) (fun w f hM=>ih w f hM.vl A hA s1 hM.res hM.mz hw1 op2 ln2 co2 nm2 tx2 k2 ka kc e2 ea2 oM oM hwf hM.f1 heB2 hM.f0 oM) (fun _=>Au.stab) (fun _=>⟨Ah.mono,trivial⟩) (fun er w2 f2 he hE=>⟨rfl,er,f2,rfl,(by rw[H8,← hs1,← hee,he]),hE⟩) ?_
 rintro⟨⟨t,ta,tc⟩,s2⟩ ⟨hp2,htb,hw2,hf2⟩
 dsimp only at hp2 htb hw2 hf2 ⊢
 refine go CL 1 [] (fun _=>Ax [1,2,3] rfl<|Ag rfl ?_ Ai)
 refine go CL 2 [0] (y<|fun _=>Ax [1,2,3] rfl<|B3<|go CL 8 [1,0,3] (y<|y<|y<|fun _=>DZ rfl rfl (eC Gp rfl rfl) (fun _ h=>h) (fun w f hM=>Dk w f hM.vl A hA s2 hM.res hM.mz hw2 (AB s).1 t none 0 ta tc (B7 _) htb (Ah.nil _ _ _ _) hM.f0 ln co) (fun _=>Au.stab) (fun _=>trivial) (fun er w2 f2 he hE=>⟨rfl,er,f2,rfl,(by rw[H8,← hs1,← hee,hp2];simp only;rw[he]),hE⟩) ?_))
 rintro s3 ⟨hh3,hw3,hf3⟩
 exact go CL 9 [0,2] (y<|y<|fun _=>AY (fun w f hM=>AI rfl (Ac rfl AJ hM.k2 rfl)) (fun w f hM=>⟨((t,ta,tc),s3),f,rfl,⟨(by rw[H8,← hs1,← hee,hp2];simp only;rw[hh3]),htb,hw3,by dsimp only;rw[hf3];omega⟩,hM.exm,hM.res,⟨hM.f0,trivial⟩⟩))
def rJ:Ea:=⟨[(54,4,5),(54,1,1)],[(23,54,6)],[],[],[(54,true,6),(23,false,1),(56,true,4),(25,true,2)],[(56,[.int .i64 0,.int .i64 0,.string ⟨#[]⟩,.slice none 0 0]),(54,[.int .i64 0,.int .i64 0,.int .i64 0,.string ⟨#[]⟩,.int .i64 0,.slice none 0 0])],[],[]⟩
theorem Ey:rJ.Ok Tryz.prog:=⟨(And.intro Ga (And.intro GJ trivial)),(And.intro EI trivial),trivial,trivial,(And.intro Bc (And.intro EM (And.intro AJ (And.intro CV trivial)))),(And.intro DD (And.intro G5 trivial)),trivial,trivial⟩
theorem O6(n:Nat)(ih:Wg Tryz.prog 19 47 64 130 n)(w:World)(f:Fq)(hv:Vl w f)(A:Ad)(hA:A.ok)(s:CS)(hC:Au 64 130 A s w f)(hf:∀b,BB A b→f b=0)(hw:DR s)(nds:Nd)(na:Option Addr)(nc:Nat)(e:Bg)(ea:Option Addr)(pt:T1)(pa:Option Addr)(pc:Nat)(tk:Option T1)(ta:Option Addr)(tc:Nat)(hpb:pt.bnd)(hP:Ah w f pt.kids pa pc)(htb:(tk.getD (.var 0)).bnd)(hT:Ah w f (tk.getD (.var 0)).kids ta tc)(hm:nds.size≤n)(hsz:nds.size≤200000)(hwf:nds.wfm 1)(hN:AK w f nds na nc)(heB:Gg e)(hE:AN w f e ea)(hfb:s.fresh+200002*nds.size≤800000000000) :
  BQ Tryz.prog 76 #[.pointer (some ⟨A.cb,0,none⟩),.slice na nds.len nc,.pointer ea,tV pt pa pc,tV (tk.getD (.var 0)) ta tc,.bool tk.isSome] w (Fl (α:=(T1×Option Addr×Nat)×CS) (fun x=>tV x.1.1 x.1.2.1 x.1.2.2) (fun x=>DN n (Co n) e pt s tk nds=.ok (x.1.1,x.2)∧x.1.1.bnd∧DR x.2∧x.2.fresh≤s.fresh+200002*nds.size) (BB A) (fun x=>Au 64 130 A x.2) (fun x=>[fun w f=>Ah w f x.1.1.kids x.1.2.1 x.1.2.2]) w f) (PanE 47 (BB A) (fun er=>DN n (Co n) e pt s tk nds=.error er) w f):=by
 have hkl:=Nd.len_le nds
 have hfr0:=hw.fr
 refine NT (X:=XC 64 130 A s w f) (H:=[]) (R:=[]) (B:=[]) (Fs:=[fun w f=>AK w f nds na nc,fun w f=>AN w f e ea,fun w f=>Ah w f pt.kids pa pc,fun w f=>Ah w f (tk.getD (.var 0)).kids ta tc]) (f:=f) Tryz.func76 rfl rfl rfl (Lz hv hC hf ⟨hN,hE,hP,hT,trivial⟩ ⟨AK.mono,AN.mono,Ah.mono,Ah.mono,trivial⟩)<|go Ey 16 [] (fun b1=>fun b2=>fun b3=>fun _=>?_)
 refine H9 (α:=Nat×Nd×Option T1×Option Addr×Nat×CS) (fun x=>x.2.1.len) (fun x=>x.1+x.2.1.len=nds.len∧DN n (Co n) e pt s tk nds=DN n (Co n) e pt x.2.2.2.2.2 x.2.2.1 x.2.1∧(x.2.2.1.getD (.var 0)).bnd∧x.2.1.wfm 1∧DR x.2.2.2.2.2∧x.2.1.size≤nds.size∧x.2.2.2.2.2.fresh+200002*x.2.1.size≤s.fresh+200002*nds.size) (fun x=>(E9 0 (.pointer (some ⟨A.cb,0,none⟩)) 2 (.pointer ea) 5 (.bool x.2.2.1.isSome) 9 (.pointer (some ⟨b1,0,none⟩)) 10 (.pointer (some ⟨b2,0,none⟩)) 12 (.pointer (some ⟨b3,0,none⟩)) 20 (.slice na nds.len nc) 21 (.int .i64 (nds.len:Int)) 22 (.int .i64 (x.1:Int)))) (fun x=>⟨BB A,BB A,Au 64 130 A x.2.2.2.2.2,w,f⟩) (fun x=>[⟨b3,[.int .i64 0,.int .i64 0,.string ⟨#[]⟩,.slice none 0 0],56,true⟩,⟨b2,tC (x.2.2.1.getD (.var 0)) x.2.2.2.1 x.2.2.2.2.1,56,true⟩,⟨b1,tC pt pa pc,56,true⟩]) (fun x=>[]) (fun x=>[]) (fun x=>[fun w f=>Az w f na x.1 x.2.1,fun w f=>Ah w f (x.2.2.1.getD (.var 0)).kids x.2.2.2.1 x.2.2.2.2.1,fun w f=>AN w f e ea,fun w f=>Ah w f pt.kids pa pc]) (0,nds,tk,ta,tc,s) ⟨Nat.zero_add _,rfl,htb,hwf,hw,Nat.le_refl _,by dsimp only;omega⟩ lE (fun w f hM=>hM.more (B':=[]) (F':=[fun w f=>Az w f na 0 nds]) nE (A1.mem ⟨AK.at hM.f0,trivial⟩) (Af.mem ⟨Az.mono,trivial⟩) |>.less sR sR nE (mR [0,4,2,3])) ?_
 rintro⟨i,r,tk4,ta4,ZH,s4⟩ ⟨hi,har,htb4,hwf4,hw4,hrs,hfr4⟩
 dsimp only at hi har htb4 hwf4 hw4 hrs hfr4 ⊢
 refine go Ey 6 [] (fun _=>AZ 23 rfl rfl (fun h1=>?_) (fun h1=>?_))
 refine go Ey 6 [] (fun _=>?_)
 have hil:i<nds.len:=by have:=of_decide_eq_true h1;omega
 obtain⟨op2,ln2,co2,tx2,nm2,k2,r,rfl⟩:=Nd.cases1 r oM
 have hi2:i+(r.len+1)=nds.len:=hi
 have hrs2:k2.size+r.size+1≤nds.size:=hrs
 rw[sJ] at hwf4
 obtain⟨hwf0,hwf1⟩:=hwf4
 obtain⟨op3,ln3,co3,tx3,nm3,k3,r3,rfl⟩:=CK hwf0 dC
 rw[pR] at hwf0
 obtain⟨op4,ln4,co4,tx4,nm4,k4,r4,rfl⟩:=CK hwf0 dC
 rw[WC] at hwf0
 have hsz3:(Nd.cons op3 ln3 co3 tx3 nm3 k3 (Nd.cons op4 ln4 co4 tx4 nm4 k4 r4)).size=k3.size+(k4.size+r4.size+1)+1:=rfl
 rw[hsz3] at hrs2
 have hfr5:s4.fresh+200002*((k3.size+(k4.size+r4.size+1)+1+r.size+1:Nat):Int)≤s.fresh+200002*nds.size:=hfr4
 have hk0:(Nd.cons op3 ln3 co3 tx3 nm3 k3 (Nd.cons op4 ln4 co4 tx4 nm4 k4 r4)).len=r4.len+1+1:=rfl
 refine CB (α:=Nat×Nat×Option Addr×Nat) (fun x=>na=some ⟨x.1,x.2.1,none⟩) (fun x=>[⟨x.1,x.2.1+i*6,F9 op2 ln2 co2 tx2 nm2 x.2.2.1 (Nd.cons op3 ln3 co3 tx3 nm3 k3 (Nd.cons op4 ln4 co4 tx4 nm4 k4 r4)).len x.2.2.2⟩]) (fun x=>[fun w f=>AK w f (Nd.cons op3 ln3 co3 tx3 nm3 k3 (Nd.cons op4 ln4 co4 tx4 nm4 k4 r4)) x.2.2.1 x.2.2.2,fun w f=>Az w f na (i+1) r]) (fun w f hM=>let ⟨b,off,ka,kc,h1,h2,h3,h4⟩:=Az.head hM.f0;⟨(b,off,ka,kc),h1,(oE h2),A1.mem ⟨h3,h4,trivial⟩⟩) (fun x=>Af.mem ⟨AK.mono,Az.mono,trivial⟩) ?_
 rintro⟨eb,eo,ka,kc⟩ rfl
 refine B4 (fun w f=>Az w f ka 0 (Nd.cons op3 ln3 co3 tx3 nm3 k3 (Nd.cons op4 ln4 co4 tx4 nm4 k4 r4))) (fun w f hM=>AK.at hM.f0) Az.mono<|CB (α:=Nat×Nat×Option Addr×Nat) (fun x=>ka=some ⟨x.1,x.2.1,none⟩) (fun x=>[⟨x.1,x.2.1+0*6,F9 op3 ln3 co3 tx3 nm3 x.2.2.1 k3.len x.2.2.2⟩]) (fun x=>[fun w f=>AK w f k3 x.2.2.1 x.2.2.2,fun w f=>Az w f ka 1 (Nd.cons op4 ln4 co4 tx4 nm4 k4 r4)]) (fun w f hM=>let ⟨b,off,ka,kc,h1,h2,h3,h4⟩:=Az.head hM.f0;⟨(b,off,ka,kc),h1,(oE h2),A1.mem ⟨h3,h4,trivial⟩⟩) (fun x=>Af.mem ⟨AK.mono,Az.mono,trivial⟩) ?_
 rintro⟨eb3,eo3,ka3,kc3⟩ rfl
 refine CB (α:=Nat×Nat×Option Addr×Nat) (fun x=>(some (⟨eb3,eo3,none⟩:Addr))=some ⟨x.1,x.2.1,none⟩) (fun x=>[⟨x.1,x.2.1+1*6,F9 op4 ln4 co4 tx4 nm4 x.2.2.1 k4.len x.2.2.2⟩]) (fun x=>[fun w f=>AK w f k4 x.2.2.1 x.2.2.2,fun w f=>Az w f (some (⟨eb3,eo3,none⟩:Addr)) 2 r4]) (fun w f hM=>let ⟨b,off,ka,kc,h1,h2,h3,h4⟩:=Az.head hM.f1;⟨(b,off,ka,kc),h1,(oE h2),A1.mem ⟨h3,h4,trivial⟩⟩) (fun x=>Af.mem ⟨AK.mono,Az.mono,trivial⟩) ?_
 rintro⟨eb4,eo4,ka4,kc4⟩ h44
 obtain⟨rfl,rfl⟩:eb3=eb4∧eo3=eo4:=by cases h44;exact⟨rfl,rfl⟩
 refine go Ey 8 [102,0,0] (And.intro oM<|y2<|fun b4=>y<|fun _=>?_)
 refine WA (α:=Nat×Nat) (fun x=>True) (fun x=>(oA 0 (.pointer (some ⟨A.cb,0,none⟩)) 2 (.pointer ea) 5 (.bool tk4.isSome) 9 (.pointer (some ⟨b1,0,none⟩)) 10 (.pointer (some ⟨b2,0,none⟩)) 12 (.pointer (some ⟨b3,0,none⟩)) 15 (.pointer (some ⟨x.1,0,none⟩)) 16 (.pointer (some ⟨x.2,0,none⟩)) 20 (.slice (some ⟨eb,eo,none⟩) nds.len nc) 21 (.int .i64 (nds.len:Int)) 22 (.int .i64 (i:Int)))) (fun x=>⟨BB A,BB A,Au 64 130 A s4,w,f⟩) (fun x=>[⟨x.2,F9 op4 ln4 co4 tx4 nm4 ka4 k4.len kc4,54,true⟩,⟨x.1,F9 op3 ln3 co3 tx3 nm3 ka3 k3.len kc3,54,true⟩,⟨b4,F9 op2 ln2 co2 tx2 nm2 (some ⟨eb3,eo3,none⟩) (Nd.cons op3 ln3 co3 tx3 nm3 k3 (Nd.cons op4 ln4 co4 tx4 nm4 k4 r4)).len kc,54,true⟩,⟨b3,[.int .i64 0,.int .i64 0,.string ⟨#[]⟩,.slice none 0 0],56,true⟩,⟨b2,tC (tk4.getD (.var 0)) ta4 ZH,56,true⟩,⟨b1,tC pt pa pc,56,true⟩]) (fun x=>[]) (fun x=>[]) (fun x=>[fun w f=>Az w f (some ⟨eb,eo,none⟩) (i+1) r,fun w f=>Ah w f (tk4.getD (.var 0)).kids ta4 ZH,fun w f=>AN w f e ea,fun w f=>Ah w f pt.kids pa pc,fun w f=>AK w f k3 ka3 kc3,fun w f=>AK w f k4 ka4 kc4]) ?_ ?_
 refine Dj [0,1,2,3] Ap (rd [0,1,2,3,4,5,6,7] (.br 8 (.br 9 (.br 10 (.br 11 .fin .fin) .fin) .fin) (.br 9 (.br 8 (.br 10 (.br 11 .fin .fin) .fin) .fin) .fin))) rfl kR<|AA Ey 8 [0,101,0,0,100,0] (y<|And.intro oM<|y2<|y<|And.intro oM<|y2<|fun _=>Ag rfl ?_ ?_)
 refine go Ey 2 [] (fun b5=>fun _=>Ax [1,2,3,4] rfl<|Ag rfl ?_ Ai)
 refine go Ey 2 [] (fun b6=>fun _=>Ax [2,3,4,5] rfl<|Ag rfl ?_ Ai)
 refine go Ey 2 [1] (y<|fun _=>Ax [2,3,4,5] rfl<|Ag rfl ?_ Ai)
 exact go Ey 2 [0] (y<|fun _=>Ax [2,3,4,5] rfl<|B3<|L2 (b5,b6) trivial lE (fun w f hM=>⟨f,(hM).less sR sR nE (mR [6,8,9,10,2,0])⟩))
 refine Ag rfl ?_ Ai
 refine go Ey 2 [] (fun b7=>fun _=>Ax [1,2,3,4] rfl<|Ag rfl ?_ Ai)
 refine go Ey 2 [] (fun b8=>fun _=>Ax [2,3,4,5] rfl<|Ag rfl ?_ Ai)
 refine go Ey 2 [0] (y<|fun _=>Ax [2,3,4,5] rfl<|Ag rfl ?_ Ai)
 exact go Ey 2 [1] (y<|fun _=>Ax [2,3,4,5] rfl<|B3<|L2 (b8,b7) trivial lE (fun w f hM=>⟨f,(hM.perm (List.Perm.swap _ _ _)).less sR sR nE (mR [6,8,9,10,2,0])⟩))
 rintro⟨b15,b16⟩ -
 dsimp only
 refine go Ey 6 [1] (y<|fun _=>DZ rfl rfl (eC PE rfl rfl) (fun _ h=>h) (fun w f hM=>Rm n w f hM.vl A hA s4 hM.res hM.mz hw4 op3 ln3 co3 nm3 tx3 k3 ka3 kc3 e ea oM oM hM.f4 heB hM.f2 oM) (fun _=>Au.stab) (fun _=>⟨Ah.mono,AN.mono,trivial⟩) (fun er w2 f2 he hE=>⟨rfl,er,f2,rfl,(by rw[har];simp only[DN,he]),hE⟩) ?_)
 rintro⟨⟨q5,qa,qc⟩,⟨e5,ea5⟩,s5⟩ ⟨hp5,hqb,heB5,hw5,hfr6⟩
 dsimp only at hp5 hqb heB5 hw5 hfr6 ⊢
 refine go Ey 15 [0,6,0,2] (fun b9=>y<|y<|y<|y<|fun _=>DZ rfl rfl (eC Gp rfl rfl) (fun _ h=>h) (fun w f hM=>Dk w f hM.vl A hA s5 hM.res hM.mz hw5 pt q5 pa pc qa qc hpb hqb hM.f5 hM.f0 ln3 co3) (fun _=>Au.stab) (fun _=>trivial) (fun er w2 f2 he hE=>⟨rfl,er,f2,rfl,(by rw[har];simp only[DN,hp5,he]),hE⟩) ?_)
 rintro s6 ⟨hh6,hw6,hf6⟩
 refine go Ey 7 [1] (y<|fun _=>DZ rfl rfl (eC CX rfl rfl) (fun _ h=>h) (fun w f hM=>ih w f hM.vl A hA s6 hM.res hM.mz hw6 op4 ln4 co4 nm4 tx4 k4 ka4 kc4 e5 ea5 oM oM hwf0 hM.f7 heB5 hM.f1 oM) (fun _=>Au.stab) (fun _=>⟨Ah.mono,trivial⟩) (fun er w2 f2 he hE=>⟨rfl,er,f2,rfl,(by rw[har];simp only[DN,hp5,hh6,he]),hE⟩) ?_)
 rintro⟨⟨rt,ra7,rc7⟩,s7⟩ ⟨hp7,hrb7,hw7,hf7⟩
 dsimp only at hp7 hrb7 hw7 hf7 ⊢
 refine go Ey 9 [0] (fun b10=>y<|fun _=>AZ 51 rfl rfl (fun h2=>?_) (fun h2=>?_))
 refine go Ey 7 [6,0,2] (y<|y<|y<|fun _=>?_)
 obtain⟨t0,rfl⟩:=Option.isSome_iff_exists.1 h2
 refine DZ rfl rfl (eC Gp rfl rfl) (fun _ h=>h) (fun w f hM=>Dk w f hM.vl A hA s7 hM.res hM.mz hw7 t0 rt ta4 ZH ra7 rc7 htb4 hrb7 hM.f4 hM.f0 ln4 co4) (fun _=>Au.stab) (fun _=>trivial) (fun er w2 f2 he hE=>⟨rfl,er,f2,rfl,(by rw[har];simp only[DN,hp5,hh6,hp7,he]),hE⟩) ?_
 rintro s9 ⟨hh9,hw9,hf9⟩
 exact go Ey 7 [] (And.intro ⟨oM,oM⟩<|fun _=>Eb ((i+1,r,some t0,ta4,ZH,s9)) (show r.len<(Nd.cons op2 ln2 co2 tx2 nm2 (.cons op3 ln3 co3 tx3 nm3 k3 (.cons op4 ln4 co4 tx4 nm4 k4 r4)) r).len from Nat.lt_succ_self _) ⟨show i+1+r.len=_ by omega,har.trans (TW hp5 hh6 hp7 hh9),htb4,hwf1,hw9,show r.size≤_ by omega,show s9.fresh+200002*(r.size:Int)≤_ by omega⟩ lE (fun w f hM=>⟨_,hM.less (.cons _ (.cons _ (.cons _ (.cons _ (.cons _ sR))))) sR nE (mR [3,4,5,6])⟩))
 obtain rfl:tk4=none:=Option.isNone_iff_eq_none.1 (by cases tk4 with|none=>rfl|some z=>cases h2)
 exact go Ey 12 [0,6] (y<|y<|And.intro ⟨oM,oM⟩<|fun _=>Eb ((i+1,r,some rt,ra7,rc7,s7)) (show r.len<(Nd.cons op2 ln2 co2 tx2 nm2 (.cons op3 ln3 co3 tx3 nm3 k3 (.cons op4 ln4 co4 tx4 nm4 k4 r4)) r).len from Nat.lt_succ_self _) ⟨show i+1+r.len=_ by omega,har.trans (Ut hp5 hh6 hp7),hrb7,hwf1,hw7,show r.size≤_ by omega,show s7.fresh+200002*(r.size:Int)≤_ by omega⟩ lE (fun w f hM=>⟨_,hM.less (.cons _ (.cons _ (.cons _ (.cons _ (.cons _ sR))))) sR nE (mR [3,0,5,6])⟩))
 refine go Ey 3 [] (fun _=>Hc<|go Ey 9 [1,0] (y<|y<|fun _=>?_))
 obtain rfl:r=.nil:=Nd.len0 (by have:=of_decide_eq_false h1;omega)
 have har2:DN n (Co n) e pt s tk nds=.ok (tk4.getD (.var 0),s4):=har
 exact AY (fun w f hM=>AI rfl (Ac rfl AJ hM.k0 rfl)) (fun w f hM=>⟨((tk4.getD (.var 0),ta4,ZH),s4),f,rfl,⟨har2,htb4,hw4,by have h9:s4.fresh+200002*((0:Nat):Int)≤_:=hfr4;dsimp only;omega⟩,hM.exm,hM.res,⟨hM.f1,trivial⟩⟩)
def pY:Ea:=⟨[(54,4,5),(54,0,0),(54,1,1),(64,0,0),(54,2,3)],[(23,54,6),(52,56,4)],[],[],[(23,false,1),(3,false,1),(56,true,4),(54,true,6),(25,true,2),(59,false,1),(9,false,1)],[(56,[.int .i64 0,.int .i64 0,.string ⟨#[]⟩,.slice none 0 0]),(54,[.int .i64 0,.int .i64 0,.int .i64 0,.string ⟨#[]⟩,.int .i64 0,.slice none 0 0])],[(56,[(0,1),(1,1),(2,1),(3,1)])],[]⟩
theorem Ay:pY.Ok Tryz.prog:=⟨(And.intro Ga (And.intro IY (And.intro GJ (And.intro JT (And.intro GH trivial))))),(And.intro EI (And.intro DI trivial)),trivial,trivial,(And.intro EM (And.intro CZ (And.intro AJ (And.intro Bc (And.intro CV (And.intro HJ (And.intro Hx trivial))))))),(And.intro DD (And.intro G5 trivial)),(And.intro RM trivial),trivial⟩
theorem Vd{k:Ty}(h:k.bnd):(HR k).bnd:=Z2 k.len k (Nat.le_refl _) h
theorem X6(w:World)(f:Fq)(hv:Vl w f)(x t:T1)(b:Nat)(hx:x.bnd)(ht:t.bnd)(hT:Ah w f (x.cons t.one) (some ⟨b,0,none⟩) 2) :
  BF Tryz.prog 68 #[.slice (some ⟨b,0,none⟩) 2 2] w (BV (α:=Option Addr×Nat) (fun y=>tV (.con G2 (x.cons t.one)) y.1 y.2) (fun _=>True) (fun y=>[fun w f=>Ah w f (T1.con G2 (x.cons t.one)).kids y.1 y.2]) w f):=by
 have e:(x.cons t.one).len=2:=by simp[T1.len_cons,T1.one,Ty.len]
 have e2:HR (x.cons t.one)=.con G2 (x.cons t.one):=by rw[show t.one=t.cons .nil from rfl,MH];rw[show t.cons .nil=t.one from rfl,Pz]
 have h9:=MB w f hv (x.cons t.one) (some ⟨b,0,none⟩) 2 oM oM (T1.bnd_cons.2 ⟨hx,GK ht⟩) hT
 rw[e,e2] at h9;exact h9
theorem Wu(n:Nat)(ih:Wg Tryz.prog 19 47 64 130 n)(w:World)(f:Fq)(hv:Vl w f)(A:Ad)(hA:A.ok)(s:CS)(hC:Au 64 130 A s w f)(hf:∀b,BB A b→f b=0)(hw:DR s)(op ln co nm:Int)(tx:List UInt8)(kids:Nd)(op2 ln2 co2 nm2:Int)(tx2:List UInt8)(k2 r:Nd)(hkk:kids=.cons op2 ln2 co2 tx2 nm2 k2 r)(na:Option Addr)(nc:Nat)(e:Bg)(ea:Option Addr)(hm:k2.size<n)(hsz:k2.size≤200000)(hwf:GY op2 k2)(hN:AK w f kids na nc)(heB:Gg e)(hE:AN w f e ea)(hfb:s.fresh+200002*(k2.size+2)≤800000000000) :
  BQ Tryz.prog 23 #[.pointer (some ⟨A.cb,0,none⟩),.agg #[.int .i64 op,.int .i64 ln,.int .i64 co,S tx,.int .i64 nm,.slice na kids.len nc],.pointer ea] w (Fl (α:=(T1×Option Addr×Nat)×CS) (fun x=>tV x.1.1 x.1.2.1 x.1.2.2) (fun x=>H8 (Co n) s e ln co tx op2 ln2 co2 tx2 nm2 k2=.ok (x.1.1,x.2)∧x.1.1.bnd∧DR x.2∧x.2.fresh≤s.fresh+200002*(k2.size+1)) (BB A) (fun x=>Au 64 130 A x.2) (fun x=>[fun w f=>Ah w f x.1.1.kids x.1.2.1 x.1.2.2]) w f) (PanE 47 (BB A) (fun er=>H8 (Co n) s e ln co tx op2 ln2 co2 tx2 nm2 k2=.error er) w f):=by
 subst hkk
 exact RT n ih w f hv A hA s hC hf hw op ln co nm tx op2 ln2 co2 nm2 tx2 k2 r na nc e ea hm hsz hwf hN heB hE hfb
set_option maxHeartbeats 2000000 in
theorem Wz(n:Nat)(ih:Wg Tryz.prog 19 47 64 130 n)(w:World)(f:Fq)(hv:Vl w f)(A:Ad)(hA:A.ok)(s:CS)(hC:Au 64 130 A s w f)(hf:∀b,BB A b→f b=0)(hw:DR s)(op ln co nm:Int)(tx:List UInt8)(kids:Nd)(na:Option Addr)(nc:Nat)(e:Bg)(ea:Option Addr)(hm:kids.size<n+1)(hsz:kids.size≤200000)(hwf:GY op kids)(hN:AK w f kids na nc)(heB:Gg e)(hE:AN w f e ea)(hfb:s.fresh+200002*(kids.size+1)≤800000000000) :
  BQ Tryz.prog 49 #[.pointer (some ⟨A.cb,0,none⟩),.agg #[.int .i64 op,.int .i64 ln,.int .i64 co,S tx,.int .i64 nm,.slice na kids.len nc],.pointer ea] w (Fl (α:=(T1×Option Addr×Nat)×CS) (fun x=>tV x.1.1 x.1.2.1 x.1.2.2) (fun x=>Bp n (Co n) s e op ln co tx kids=.ok (x.1.1,x.2)∧x.1.1.bnd∧DR x.2∧x.2.fresh+1≤s.fresh+200002*(kids.size+1)) (BB A) (fun x=>Au 64 130 A x.2) (fun x=>[fun w f=>Ah w f x.1.1.kids x.1.2.1 x.1.2.2]) w f) (PanE 47 (BB A) (fun er=>Bp n (Co n) s e op ln co tx kids=.error er) w f):=by
 have hkl:=Nd.len_le kids
 have hfr0:=hw.fr
 refine NT (X:=XC 64 130 A s w f) (H:=[]) (R:=[]) (B:=[]) (Fs:=[fun w f=>AK w f kids na nc,fun w f=>AN w f e ea]) (f:=f) Tryz.func49 rfl rfl rfl (Lz hv hC hf ⟨hN,hE,trivial⟩ ⟨AK.mono,AN.mono,trivial⟩)<|go Ay 27 [1,1] (fun b1=>fun b2=>y<|y<|fun _=>AZ 28 rfl rfl (fun h1=>?_) (fun h1=>?_))
 refine go Ay 3 [] (fun _=>B8 rfl rfl (eC B5 rfl rfl) (fun w f hM=>Bx w f hM.vl [105,110,116]) (fun x=>trivial) ?_)
 rintro⟨⟩ -
 exact go Ay 6 [0] (y<|fun _=>AY (fun w f hM=>AI rfl (Ac rfl AJ hM.k0 rfl)) (fun w f hM=>⟨(((c0 bI),none,0),s),f,rfl,⟨(by simp only[Bp,h1,Bool.false_eq_true,if_false,if_true]),(Df dC),hw,by dsimp only;omega⟩,hM.exm,hM.res,⟨Ah.nil _ _ _ _,trivial⟩⟩))
 refine go Ay 7 [] (fun _=>AZ 31 rfl rfl (fun h2=>?_) (fun h2=>?_))
 refine go Ay 3 [] (fun _=>B8 rfl rfl (eC B5 rfl rfl) (fun w f hM=>Bx w f hM.vl [102,108,111,97,116]) (fun x=>trivial) ?_)
 rintro⟨⟩ -
 exact go Ay 6 [0] (y<|fun _=>AY (fun w f hM=>AI rfl (Ac rfl AJ hM.k0 rfl)) (fun w f hM=>⟨(((c0 bF),none,0),s),f,rfl,⟨(by simp only[Bp,h1,h2,Bool.false_eq_true,if_false,if_true]),(Df dC),hw,by dsimp only;omega⟩,hM.exm,hM.res,⟨Ah.nil _ _ _ _,trivial⟩⟩))
 refine go Ay 7 [] (fun _=>AZ 34 rfl rfl (fun h3=>?_) (fun h3=>?_))
 refine go Ay 3 [] (fun _=>B8 rfl rfl (eC B5 rfl rfl) (fun w f hM=>Bx w f hM.vl [115,116,114,105,110,103]) (fun x=>trivial) ?_)
 rintro⟨⟩ -
 exact go Ay 6 [0] (y<|fun _=>AY (fun w f hM=>AI rfl (Ac rfl AJ hM.k0 rfl)) (fun w f hM=>⟨(((c0 bS),none,0),s),f,rfl,⟨(by simp only[Bp,h1,h2,h3,Bool.false_eq_true,if_false,if_true]),(Df dC),hw,by dsimp only;omega⟩,hM.exm,hM.res,⟨Ah.nil _ _ _ _,trivial⟩⟩))
 refine go Ay 7 [] (fun _=>AZ 37 rfl rfl (fun h4=>?_) (fun h4=>?_))
 refine go Ay 3 [] (fun _=>B8 rfl rfl (eC B5 rfl rfl) (fun w f hM=>Bx w f hM.vl [117,110,105,116]) (fun x=>trivial) ?_)
 rintro⟨⟩ -
 exact go Ay 6 [0] (y<|fun _=>AY (fun w f hM=>AI rfl (Ac rfl AJ hM.k0 rfl)) (fun w f hM=>⟨(((c0 bU),none,0),s),f,rfl,⟨(by simp only[Bp,h1,h2,h3,h4,Bool.false_eq_true,if_false,if_true]),(Df dC),hw,by dsimp only;omega⟩,hM.exm,hM.res,⟨Ah.nil _ _ _ _,trivial⟩⟩))
 refine go Ay 7 [] (fun _=>AZ 40 rfl rfl (fun h5=>?_) (fun h5=>?_))
 refine go Ay 6 [1] (y<|fun _=>DZ rfl rfl (eC gA rfl rfl) (fun _ h=>h) (fun w f hM=>WM w f hM.vl A hA s hM.res hM.mz hw op ln co nm tx kids na nc e ea heB hM.f1 oM) (fun _=>Au.stab) (fun _=>⟨Ah.mono,trivial⟩) (fun er w2 f2 he hE=>⟨rfl,er,f2,rfl,(by simp only[Bp,h1,h2,h3,h4,h5,Bool.false_eq_true,if_false,if_true];exact he),hE⟩) ?_)
 rintro⟨⟨t,ta,tc⟩,s1⟩ ⟨hlk,htb,hw1,hf1⟩
 dsimp only at hlk htb hw1 hf1 ⊢
 exact go Ay 6 [0] (y<|fun _=>AY (fun w f hM=>AI rfl (Ac rfl AJ hM.k0 rfl)) (fun w f hM=>⟨((t,ta,tc),s1),f,rfl,⟨(by simp only[Bp,h1,h2,h3,h4,h5,Bool.false_eq_true,if_false,if_true];exact hlk),htb,hw1,by dsimp only;omega⟩,hM.exm,hM.res,⟨hM.f0,trivial⟩⟩))
 refine go Ay 7 [] (fun _=>AZ 46 rfl rfl (fun h6=>?_) (fun h6=>?_))
 refine go Ay 5 [1] (y<|fun _=>DZ rfl rfl (eC Zy rfl rfl) (fun _ h=>h) (fun w f hM=>OC w f hM.vl A hA s hM.res hM.mz hw op ln co nm tx kids na nc oM) (fun _=>Au.stab) (fun _=>⟨Ah.mono,Ah.mono,trivial⟩) (fun er w2 f2 he hE=>⟨rfl,er,f2,rfl,(by simp only[Bp,h1,h2,h3,h4,h5,h6,Bool.false_eq_true,if_false,if_true];rw[he]),hE⟩) ?_)
 rintro⟨⟨args,aa,ac⟩,⟨out,oa,oc⟩,s1⟩ ⟨hmk,hal,hab,hob,hw1,hfr1⟩
 dsimp only at hmk hal hab hob hw1 hfr1 ⊢
 refine go Ay 17 [0] (fun b3=>y<|fun _=>?_)
 have hwk:=uL ((beq_iff_eq.1 h6)▸hwf)
 refine H9 (α:=Nat×Nd×Ty×CS) (fun x=>x.2.1.len) (fun x=>x.1+x.2.1.len=kids.len∧x.2.2.1.len=x.2.1.len∧G6 (Co n) e s1 args kids=G6 (Co n) e x.2.2.2 x.2.2.1 x.2.1∧x.2.2.1.bnd∧x.2.1.wfm 0∧DR x.2.2.2∧x.2.1.size≤kids.size∧x.2.2.2.fresh+200002*x.2.1.size≤s.fresh+200000+200002*kids.size) (fun x=>(E8 0 (.pointer (some ⟨A.cb,0,none⟩)) 2 (.pointer ea) 6 (.pointer (some ⟨b2,0,none⟩)) 8 (.slice aa args.len ac) 9 (.pointer (some ⟨b3,0,none⟩)) 54 (.slice na kids.len nc) 55 (.int .i64 (kids.len:Int)) 56 (.int .i64 (x.1:Int)))) (fun x=>⟨BB A,BB A,Au 64 130 A x.2.2.2,w,f⟩) (fun x=>[⟨b3,tC out oa oc,56,true⟩,⟨b2,[.int .i64 0,.int .i64 0,.string ⟨#[]⟩,.slice none 0 0],56,true⟩,⟨b1,[.int .i64 op,.int .i64 ln,.int .i64 co,S tx,.int .i64 nm,.slice na kids.len nc],54,true⟩]) (fun x=>[]) (fun x=>[]) (fun x=>[fun w f=>Az w f na x.1 x.2.1,fun w f=>AW w f aa x.1 x.2.2.1,fun w f=>AN w f e ea,fun w f=>Ah w f out.kids oa oc]) (0,kids,args,s1) ⟨Nat.zero_add _,hal,rfl,hab,hwk,hw1,Nat.le_refl _,by dsimp only;omega⟩ lE (fun w f hM=>hM.more (B':=[]) (F':=[fun w f=>Az w f na 0 kids,fun w f=>AW w f aa 0 args]) nE (A1.mem ⟨AK.at hM.f2,Ah.at hM.f0,trivial⟩) (Af.mem ⟨Az.mono,AW.mono,trivial⟩) |>.less sR sR nE (mR [0,1,5,3])) ?_
 rintro⟨i,r,ar,s4⟩ ⟨hi,harl,hpc,harb,hwf4,hw4,hrs,hfr4⟩
 dsimp only at hi harl hpc harb hwf4 hw4 hrs hfr4 ⊢
 refine go Ay 6 [] (fun _=>AZ 57 rfl rfl (fun h7=>?_) (fun h7=>?_))
 refine go Ay 6 [] (fun _=>?_)
 have hil:i<kids.len:=by have:=of_decide_eq_true h7;omega
 obtain⟨op2,ln2,co2,tx2,nm2,k2,r,rfl⟩:=Nd.cases1 r oM
 have hi2:i+(r.len+1)=kids.len:=hi
 have harl2:ar.len=r.len+1:=harl
 obtain⟨t2,ar,rfl⟩:=Ty.cases1 ar oM
 rw[T1.len_cons] at harl2
 have hrs2:k2.size+r.size+1≤kids.size:=hrs
 rw[gS] at hwf4
 have hfr5:s4.fresh+200002*((k2.size+r.size+1:Nat):Int)≤s.fresh+200000+200002*kids.size:=hfr4
 refine CB (α:=Nat×Nat×Option Addr×Nat) (fun x=>na=some ⟨x.1,x.2.1,none⟩) (fun x=>[⟨x.1,x.2.1+i*6,F9 op2 ln2 co2 tx2 nm2 x.2.2.1 k2.len x.2.2.2⟩]) (fun x=>[fun w f=>AK w f k2 x.2.2.1 x.2.2.2,fun w f=>Az w f na (i+1) r]) (fun w f hM=>let ⟨b,off,ka,kc,h1,h2,h3,h4⟩:=Az.head hM.f0;⟨(b,off,ka,kc),h1,(oE h2),A1.mem ⟨h3,h4,trivial⟩⟩) (fun x=>Af.mem ⟨AK.mono,Az.mono,trivial⟩) ?_
 rintro⟨eb,eo,ka,kc⟩ rfl
 refine CB (α:=Nat×Nat×Option Addr×Nat) (fun x=>aa=some ⟨x.1,x.2.1,none⟩) (fun x=>[⟨x.1,x.2.1+i*4,tC t2 x.2.2.1 x.2.2.2⟩]) (fun x=>[fun w f=>Ah w f t2.kids x.2.2.1 x.2.2.2,fun w f=>AW w f aa (i+1) ar]) (fun w f hM=>let ⟨b,off,ka,kc,h1,h2,h3,h4⟩:=AW.head hM.f3;⟨(b,off,ka,kc),h1,(oE h2),A1.mem ⟨h3,h4,trivial⟩⟩) (fun x=>Af.mem ⟨Ah.mono,AW.mono,trivial⟩) ?_
 rintro⟨ab,ao,ka2,kc2⟩ rfl
 refine go Ay 9 [101,0,0] (And.intro oM<|y2<|fun b4=>y<|fun _=>Dj [0,1,2,3] Ap (rd [0,1,2,3,4,5,6,7,9,10] (.br 8 (.br 11 .fin .fin) .fin)) rfl kR<|AA Ay 10 [100,0,0,0] (And.intro oM<|y2<|y<|y<|fun _=>Ag rfl ?_ Ai))
 refine DZ rfl rfl (eC CX rfl rfl) (fun _ h=>h) (fun w f hM=>ih w f hM.vl A hA s4 hM.res hM.mz hw4 op2 ln2 co2 nm2 tx2 k2 ka kc e ea oM oM hwf4.1 hM.f2 heB hM.f6 oM) (fun _=>Au.stab) (fun _=>⟨Ah.mono,trivial⟩) (fun er w2 f2 he hE=>⟨rfl,er,f2,rfl,(by simp only[Bp,h1,h2,h3,h4,h5,h6,Bool.false_eq_true,if_false,if_true];rw[hmk];simp only;rw[hpc,show G6 (Co n) e s4 (t2.cons ar) (.cons op2 ln2 co2 tx2 nm2 k2 r)=.error er by rw[G6,he]]),hE⟩) ?_
 rintro⟨⟨q5,qa,qc⟩,s5⟩ ⟨hp5,hqb,hw5,hf5⟩
 dsimp only at hp5 hqb hw5 hf5 ⊢
 refine go Ay 1 [] (fun _=>Ax [0,1,2,3] rfl<|Ag rfl ?_ Ai)
 refine DZ rfl rfl (eC Gp rfl rfl) (fun _ h=>h) (fun w f hM=>Dk w f hM.vl A hA s5 hM.res hM.mz hw5 t2 q5 ka2 kc2 qa qc (T1.bnd_cons.1 harb).1 hqb hM.f1 hM.f0 ln2 co2) (fun _=>Au.stab) (fun _=>trivial) (fun er w2 f2 he hE=>⟨rfl,er,f2,rfl,(by simp only[Bp,h1,h2,h3,h4,h5,h6,Bool.false_eq_true,if_false,if_true];rw[hmk];simp only;rw[hpc,show G6 (Co n) e s4 (t2.cons ar) (.cons op2 ln2 co2 tx2 nm2 k2 r)=.error er by rw[G6,hp5];simp only;rw[T1.hd_cons,he]]),hE⟩) ?_
 rintro s6 ⟨hh6,hw6,hf6⟩
 exact go Ay 1 [] (fun _=>Ax [0,1,2,3] rfl<|B3<|go Ay 6 [] (And.intro ⟨oM,oM⟩<|fun _=>Eb ((i+1,r,ar,s6)) (show r.len<(Nd.cons op2 ln2 co2 tx2 nm2 k2 r).len from Nat.lt_succ_self _) ⟨show i+1+r.len=_ by omega,show ar.len=r.len by omega,hpc.trans (SY hp5 hh6),(T1.bnd_cons.1 harb).2,hwf4.2,hw6,show r.size≤_ by omega,show s6.fresh+200002*(r.size:Int)≤_ by omega⟩ lE (fun w f hM=>⟨_,hM.less (.cons _ sR) sR nE (mR [4,2,7,8])⟩)))
 refine go Ay 3 [] (fun _=>Hc<|go Ay 3 [] (fun _=>?_))
 obtain rfl:r=.nil:=Nd.len0 (by have:=of_decide_eq_false h7;omega)
 have hpc2:G6 (Co n) e s1 args kids=.ok s4:=hpc
 have hfr5:s4.fresh≤s.fresh+200000+200002*kids.size:=by have h9:s4.fresh+200002*((0:Nat):Int)≤_:=hfr4;omega
 exact go Ay 8 [0,1] (y<|y<|fun _=>AY (fun w f hM=>AI rfl (Ac rfl AJ hM.k1 rfl)) (fun w f hM=>⟨((out,oa,oc),s4),f,rfl,⟨(by simp only[Bp,h1,h2,h3,h4,h5,h6,Bool.false_eq_true,if_false,if_true];rw[hmk];simp only;rw[hpc2]),hob,hw4,by dsimp only;omega⟩,hM.exm,hM.res,⟨hM.f3,trivial⟩⟩))
 refine go Ay 7 [] (fun _=>AZ 75 rfl rfl (fun h8=>?_) (fun h8=>?_))
 refine go Ay 8 [] (fun _=>?_)
 have hwk:=uP ((beq_iff_eq.1 h8)▸hwf)
 have hk0:0<kids.len:=by obtain⟨_,_,_,_,_,_,_,h9⟩:=CK hwk dC;rw[h9];exact Nat.succ_pos _
 obtain⟨m,hm2⟩:∃m,kids.len=m+1:=⟨kids.len-1,oM⟩
 refine go Ay 5 [] (And.intro ⟨oM,oM⟩<|fun _=>Fh rfl rfl (fun w f hM=>NS (i:=m) (show ((kids.len:Int)-1)=(m:Int) by omega) rfl rfl EI (by have:=hN.1;omega))<|go Ay 5 [] (fun _=>QJ 56 4 ?_))
 refine H9 (α:=Nat×Nd×Ty×List Value×Option Addr×Nat×Bg×Option Addr×CS) (fun x=>x.2.1.len) (fun x=>x.1+x.2.1.len=kids.len∧0<x.2.1.len∧x.2.2.1.len=x.1∧FD s e kids=(x.2.2.1.app (FD x.2.2.2.2.2.2.2.2 x.2.2.2.2.2.2.1 x.2.1).1,(FD x.2.2.2.2.2.2.2.2 x.2.2.2.2.2.2.1 x.2.1).2)∧kids.last=x.2.1.last∧x.2.2.1.bnd∧x.2.1.wfm 4∧Gg x.2.2.2.2.2.2.1∧DR x.2.2.2.2.2.2.2.2∧x.2.1.size≤kids.size∧x.2.2.2.2.2.2.2.2.fresh+200002*x.2.1.size≤s.fresh+200002*kids.size) (fun x=>(E9 0 (.pointer (some ⟨A.cb,0,none⟩)) 2 (.pointer x.2.2.2.2.2.2.2.1) 4 (.pointer (some ⟨b1,0,none⟩)) 6 (.pointer (some ⟨b2,0,none⟩)) 7 (.slice na kids.len nc) 12 (.slice x.2.2.2.2.1 x.1 x.2.2.2.2.2.1) 81 (.slice na m nc) 82 (.int .i64 (m:Int)) 83 (.int .i64 (x.1:Int)))) (fun x=>⟨BB A,BB A,Au 64 130 A x.2.2.2.2.2.2.2.2,w,f⟩) (fun x=>[⟨b2,[.int .i64 0,.int .i64 0,.string ⟨#[]⟩,.slice none 0 0],56,true⟩,⟨b1,[.int .i64 op,.int .i64 ln,.int .i64 co,S tx,.int .i64 nm,.slice na kids.len nc],54,true⟩]) (fun x=>[⟨56,4,x.2.2.2.2.1,x.2.2.2.2.2.1,x.1,x.2.2.2.1⟩]) (fun x=>[]) (fun x=>[fun w f=>Az w f na x.1 x.2.1,fun w f=>Bl w f x.2.2.1 x.2.2.2.1,fun w f=>AN w f x.2.2.2.2.2.2.1 x.2.2.2.2.2.2.2.1]) (0,kids,.nil,[],none,0,e,ea,s) ⟨Nat.zero_add _,by dsimp only;omega,rfl,rfl,rfl,trivial,hwk,heB,hw,Nat.le_refl _,by dsimp only;omega⟩ lE (fun w f hM=>hM.more (B':=[]) (F':=[fun w f=>Az w f na 0 kids,fun w f=>Bl w f .nil []]) nE (A1.mem ⟨AK.at hM.f0,rfl,trivial⟩) (Af.mem ⟨Az.mono,Bl.mono,trivial⟩) |>.less sR sR nE (mR [0,1,3])) ?_
 rintro⟨i,r,dn,xs,ra,rc,e4,ea4,s4⟩ ⟨hi,hr0,hdl,hpa,hla,hdb,hwf4,heB4,hw4,hrs,hfr4⟩
 dsimp only at hi hr0 hdl hpa hla hdb hwf4 heB4 hw4 hrs hfr4 ⊢
 refine go Ay 6 [] (fun _=>AZ 84 rfl rfl (fun h9=>?_) (fun h9=>?_))
 refine go Ay 6 [] (fun _=>?_)
 have hil:i<m:=by have:=of_decide_eq_true h9;omega
 obtain⟨op2,ln2,co2,tx2,nm2,k2,r,rfl⟩:=Nd.cases1 r oM
 have hi2:i+(r.len+1)=kids.len:=hi
 have hrs2:k2.size+r.size+1≤kids.size:=hrs
 have hfr5:s4.fresh+200002*((k2.size+r.size+1:Nat):Int)≤s.fresh+200002*kids.size:=hfr4
 have hwf5:r.wfm 4:=by rw[oO] at hwf4;rcases hwf4 with h9|h9;exact absurd h9.1 (Nd.ne_nil oM);exact h9.2
 refine CB (α:=Nat×Nat×Option Addr×Nat) (fun x=>na=some ⟨x.1,x.2.1,none⟩) (fun x=>[⟨x.1,x.2.1+i*6,F9 op2 ln2 co2 tx2 nm2 x.2.2.1 k2.len x.2.2.2⟩]) (fun x=>[fun w f=>AK w f k2 x.2.2.1 x.2.2.2,fun w f=>Az w f na (i+1) r]) (fun w f hM=>let ⟨b,off,ka,kc,h1,h2,h3,h4⟩:=Az.head hM.f0;⟨(b,off,ka,kc),h1,(oE h2),A1.mem ⟨h3,h4,trivial⟩⟩) (fun x=>Af.mem ⟨AK.mono,Az.mono,trivial⟩) ?_
 rintro⟨eb,eo,ka,kc⟩ rfl
 refine go Ay 12 [100,0,0] (And.intro oM<|y2<|fun b5=>y<|fun _=>Fh rfl rfl (fun w f hM=>Al rfl HJ hM.res.blk rfl)<|ZE fun pr=>Ov (α:=CS) (val:=fun _=>tV (AB s4).1 none 0) (q:=fun x=>x=(AB s4).2∧DR x∧x.fresh=s4.fresh+1) (I':=fun x=>Au 64 130 A x) (F':=fun _=>[]) (XX:=fun _ _=>False) rfl rfl (eC K0 rfl rfl) (fun w f hM=>(Fk w f hM.vl A hA s4 hw4 pr hM.res.1 hM.res.2 hM.mz oM).retP) (fun _=>Au.stab) (fun _=>trivial) (fun _ _ _ _ _ h=>h.elim) ?_)
 rintro s5 ⟨hs5,hw5,hw5f⟩
 refine go Ay 9 [0,0] (fun b6=>y<|y<|fun b7=>fun _=>DH 0 0 rfl rfl Dq rfl rfl rfl rfl rfl rfl rfl rfl (fun _ _=>rfl) oM oM fun ra2 rc2=>go Ay 10 [2] (y<|fun _=>AZ 98 rfl rfl (fun h10=>?_) (fun h10=>?_)))
 refine go Ay 9 [2,1,4] (y<|y<|y<|fun _=>DZ rfl rfl (eC IH rfl rfl) (fun _ h=>h) (fun w f hM=>Ew w f hM.vl A hA s5 hM.res hM.mz hw5 e4 ea4 heB4 hM.f4 tx2 (AB s4).1 none 0 (B7 _) (Ah.nil _ _ _ _) false ln co) (fun _=>Au.stab) (fun _=>⟨AN.mono,trivial⟩) (fun er w2 f2 he hE=>⟨rfl,er,f2,rfl,(by cases he),hE⟩) ?_)
 rintro⟨e5,ea5⟩ ⟨he5,heB5⟩
 dsimp only at he5 heB5 ⊢
 have hee:e5=⟨tx2,(AB s4).1,[]⟩::e4:=by cases he5;rfl
 exact go Ay 8 [] (And.intro ⟨oM,oM⟩<|fun _=>Eb ((i+1,r,dn.snoc (AB s4).1,xs++tC (AB s4).1 none 0,ra2,rc2,e5,ea5,s5)) (show r.len<(Nd.cons op2 ln2 co2 tx2 nm2 k2 r).len from Nat.lt_succ_self _) ⟨show i+1+r.len=_ by omega,show 0<r.len by omega,show (dn.snoc _).len=i+1 by rw[Ty.len_snoc,hdl],hpa.trans ((Nb (Nd.ne_nil oM)).trans (by rw[hs5,h10,hee];simp)),hla.trans (Nd.last_step (Nd.ne_nil oM)),show (dn.snoc _).bnd from Ty.bnd_snoc hdb (B7 _),hwf5,heB5,hw5,show r.size≤_ by omega,show s5.fresh+200002*(r.size:Int)≤_ by rw[hw5f];omega⟩ lE (fun w f hM=>⟨_,(hM.more (B':=[]) (F':=[fun w f=>Bl w f (dn.snoc (AB s4).1) (xs++tC (AB s4).1 none 0)]) nE (A1.mem ⟨Bl.snoc (Ah.nil _ _ _ _) hM.f4,trivial⟩) (Af.mem ⟨Bl.mono,trivial⟩)).less (.cons _ (.cons _ (.cons _ sR))) sR nE (mR [3,0,1])⟩))
 exact go Ay 8 [] (And.intro ⟨oM,oM⟩<|fun _=>Eb ((i+1,r,dn.snoc (AB s4).1,xs++tC (AB s4).1 none 0,ra2,rc2,e4,ea4,s5)) (show r.len<(Nd.cons op2 ln2 co2 tx2 nm2 k2 r).len from Nat.lt_succ_self _) ⟨show i+1+r.len=_ by omega,show 0<r.len by omega,show (dn.snoc _).len=i+1 by rw[Ty.len_snoc,hdl],hpa.trans ((Nb (Nd.ne_nil oM)).trans (by rw[hs5,h10];simp)),hla.trans (Nd.last_step (Nd.ne_nil oM)),show (dn.snoc _).bnd from Ty.bnd_snoc hdb (B7 _),hwf5,heB4,hw5,show r.size≤_ by omega,show s5.fresh+200002*(r.size:Int)≤_ by rw[hw5f];omega⟩ lE (fun w f hM=>⟨_,(hM.more (B':=[]) (F':=[fun w f=>Bl w f (dn.snoc (AB s4).1) (xs++tC (AB s4).1 none 0)]) nE (A1.mem ⟨Bl.snoc (Ah.nil _ _ _ _) hM.f3,trivial⟩) (Af.mem ⟨Bl.mono,trivial⟩)).less (.cons _ (.cons _ (.cons _ sR))) sR nE (mR [2,0,5])⟩))
 refine go Ay 3 [] (fun _=>Hc<|go Ay 3 [] (fun _=>?_))
 have hie:i=m:=by have:=of_decide_eq_false h9;omega
 obtain⟨op2,ln2,co2,tx2,nm2,k2,r,rfl⟩:=Nd.cases1 r hr0
 obtain rfl:r=.nil:=Nd.len0 (by have h9:i+(r.len+1)=kids.len:=hi;omega)
 have hwk1:GY op2 k2:=by rw[oO] at hwf4;rcases hwf4 with h9|h9;exact h9.2;exact absurd rfl h9.1
 have hrs2:k2.size+0+1≤kids.size:=hrs
 have hfr5:s4.fresh+200002*((k2.size+0+1:Nat):Int)≤s.fresh+200002*kids.size:=hfr4
 have hpa2:FD s e kids=(dn,e4,s4):=by rw[hpa];show (dn.app .nil,e4,s4)=_;rw[Ty.app_nil]
 refine CB (α:=Nat×Nat×Option Addr×Nat) (fun x=>na=some ⟨x.1,x.2.1,none⟩) (fun x=>[⟨x.1,x.2.1+((kids.len:Int)-1).toNat*6,F9 op2 ln2 co2 tx2 nm2 x.2.2.1 k2.len x.2.2.2⟩]) (fun x=>[fun w f=>AK w f k2 x.2.2.1 x.2.2.2]) (fun w f hM=>let ⟨b,off,ka,kc,h1,h2,h3,h4⟩:=Az.head hM.f0;⟨(b,off,ka,kc),h1,(fun e he=>by cases he with|head=>(rw[show ((kids.len:Int)-1).toNat=i by omega];exact h2)|tail _ h=>cases h),A1.mem ⟨h3,trivial⟩⟩) (fun x=>Af.mem ⟨AK.mono,trivial⟩) ?_
 rintro⟨eb,eo,ka2,kc2⟩ rfl
 refine go Ay 10 [100,0] (And.intro ⟨oM,oM⟩<|And.intro oM<|y2<|fun _=>DZ rfl rfl (eC CX rfl rfl) (fun _ h=>h) (fun w f hM=>ih w f hM.vl A hA s4 hM.res hM.mz hw4 op2 ln2 co2 nm2 tx2 k2 ka2 kc2 e4 ea4 oM oM hwk1 hM.f0 heB4 hM.f3 oM) (fun _=>Au.stab) (fun _=>⟨Ah.mono,trivial⟩) (fun er w2 f2 he hE=>⟨rfl,er,f2,rfl,(by simp only[Bp,h1,h2,h3,h4,h5,h6,h8,Bool.false_eq_true,if_false,if_true];rw[hla];show (match Co n (FD s e kids).2.2 (FD s e kids).2.1 op2 ln2 co2 tx2 nm2 k2 with|.error x=>.error x|.ok (t,s1)=>.ok (HR ((FD s e kids).1.snoc t),s1):RI (T1×CS))=_;rw[hpa2,he]),hE⟩) ?_)
 rintro⟨⟨q5,qa,qc⟩,s5⟩ ⟨hp5,hqb,hw5,hf5⟩
 dsimp only at hp5 hqb hw5 hf5 ⊢
 refine go Ay 1 [] (fun b8=>fun _=>DH 0 0 rfl rfl Dq rfl rfl rfl rfl rfl rfl rfl rfl (fun _ _=>rfl) oM oM fun ra9 rc9=>QH (fun w f=>Ah w f (dn.snoc q5) ra9 rc9) Ah.mono (fun w f hM=>HL hM (Bl.snoc hM.f0 hM.f3)) ?_)
 have hdn:(dn.snoc q5).len=i+1:=by rw[Ty.len_snoc,hdl]
 refine B8 (α:=Option Addr×Nat) (val:=fun y=>tV (HR (dn.snoc q5)) y.1 y.2) (q:=fun _=>True) (F':=fun y=>[fun w f=>Ah w f (HR (dn.snoc q5)).kids y.1 y.2]) rfl rfl (eC Qf rfl rfl) (fun w f hM=>by have h9:=MB w f hM.vl (dn.snoc q5) ra9 rc9 oM oM (Ty.bnd_snoc hdb hqb) hM.f0;rw[hdn] at h9;exact h9) (fun _=>⟨Ah.mono,trivial⟩) ?_
 rintro⟨ta,tc⟩ -
 exact go Ay 6 [1] (y<|fun _=>AY (fun w f hM=>AI rfl (Ac rfl AJ hM.k1 rfl)) (fun w f hM=>⟨(((HR (dn.snoc q5)),ta,tc),s5),f,rfl,⟨(by simp only[Bp,h1,h2,h3,h4,h5,h6,h8,Bool.false_eq_true,if_false,if_true];rw[hla];show (match Co n (FD s e kids).2.2 (FD s e kids).2.1 op2 ln2 co2 tx2 nm2 k2 with|.error x=>.error x|.ok (t,s1)=>.ok (HR ((FD s e kids).1.snoc t),s1):RI (T1×CS))=_;rw[hpa2,hp5]),(Vd (Ty.bnd_snoc hdb hqb)),hw5,by dsimp only;omega⟩,hM.exm,hM.res,⟨hM.f0,trivial⟩⟩))
 refine go Ay 7 [] (fun _=>AZ 121 rfl rfl (fun h11=>?_) (fun h11=>?_))
 refine go Ay 2 [] (fun _=>?_)
 have hwk:=uZ ((beq_iff_eq.1 h11)▸hwf)
 obtain⟨op2,ln2,co2,tx2,nm2,k2,r2,hkk⟩:=Nd.cases1 kids hwk.1
 have hwk1:GY op2 k2:=by have h9:=hwk.2;rw[hkk] at h9;exact h9.1
 have hwk2:r2.wfm 0:=by have h9:=hwk.2;rw[hkk] at h9;exact h9.2
 have hks:kids.size=k2.size+r2.size+1:=by rw[hkk];rfl
 have hkl2:kids.len=r2.len+1:=by rw[hkk];rfl
 refine B4 (fun w f=>AK w f r2 (D4 na nc 6) (nc-1)) (fun w f hM=>AK.rest (hkk▸hM.f0)) AK.mono<|B4 (fun w f=>Az w f na 0 (.cons op2 ln2 co2 tx2 nm2 k2 r2)) (fun w f hM=>by rw[← hkk];exact AK.at hM.f1) Az.mono<|CB (α:=Nat×Nat×Option Addr×Nat) (fun x=>na=some ⟨x.1,x.2.1,none⟩) (fun x=>[⟨x.1,x.2.1+0*6,F9 op2 ln2 co2 tx2 nm2 x.2.2.1 k2.len x.2.2.2⟩]) (fun x=>[fun w f=>AK w f k2 x.2.2.1 x.2.2.2,fun w f=>Az w f na 1 r2]) (fun w f hM=>let ⟨b,off,ka,kc,h1,h2,h3,h4⟩:=Az.head hM.f0;⟨(b,off,ka,kc),h1,(oE h2),A1.mem ⟨h3,h4,trivial⟩⟩) (fun x=>Af.mem ⟨AK.mono,Az.mono,trivial⟩) ?_
 rintro⟨eb,eo,ka2,kc2⟩ rfl
 refine go Ay 6 [100,0] (And.intro oM<|y2<|fun _=>DZ rfl rfl (eC CX rfl rfl) (fun _ h=>h) (fun w f hM=>ih w f hM.vl A hA s hM.res hM.mz hw op2 ln2 co2 nm2 tx2 k2 ka2 kc2 e ea oM oM hwk1 hM.f0 heB hM.f5 oM) (fun _=>Au.stab) (fun _=>⟨Ah.mono,trivial⟩) (fun er w2 f2 he hE=>⟨rfl,er,f2,rfl,(by simp only[Bp,h1,h2,h3,h4,h5,h6,h8,h11,Bool.false_eq_true,if_false,if_true];rw[hkk];simp only;rw[he]),hE⟩) ?_)
 rintro⟨⟨t0,ta0,tc0⟩,s1⟩ ⟨hp0,htb0,hw1,hf1⟩
 dsimp only at hp0 htb0 hw1 hf1 ⊢
 refine go Ay 8 [0] (fun b9=>y<|fun _=>Fh rfl rfl (fun w f hM=>Na hkl2 rfl rfl EI)<|go Ay 5 [] (fun _=>?_))
 refine H9 (α:=Nat×Nd×T1×Option Addr×Nat×CS) (fun x=>x.2.1.len) (fun x=>x.1+x.2.1.len=r2.len∧Ko (Co n) e s1 t0 r2=Ko (Co n) e x.2.2.2.2.2 x.2.2.1 x.2.1∧x.2.2.1.bnd∧x.2.1.wfm 0∧DR x.2.2.2.2.2∧x.2.1.size≤r2.size∧x.2.2.2.2.2.fresh+1+200002*x.2.1.size≤s.fresh+200002*kids.size) (fun x=>(E7 0 (.pointer (some ⟨A.cb,0,none⟩)) 2 (.pointer ea) 6 (.pointer (some ⟨b2,0,none⟩)) 16 (.pointer (some ⟨b9,0,none⟩)) 130 (.slice (D4 (some (⟨eb,eo,none⟩:Addr)) nc 6) r2.len (nc-1)) 131 (.int .i64 (r2.len:Int)) 132 (.int .i64 (x.1:Int)))) (fun x=>⟨BB A,BB A,Au 64 130 A x.2.2.2.2.2,w,f⟩) (fun x=>[⟨b9,tC x.2.2.1 x.2.2.2.1 x.2.2.2.2.1,56,true⟩,⟨b2,[.int .i64 0,.int .i64 0,.string ⟨#[]⟩,.slice none 0 0],56,true⟩,⟨b1,[.int .i64 op,.int .i64 ln,.int .i64 co,S tx,.int .i64 nm,.slice (some (⟨eb,eo,none⟩:Addr)) kids.len nc],54,true⟩]) (fun x=>[]) (fun x=>[]) (fun x=>[fun w f=>Az w f (D4 (some (⟨eb,eo,none⟩:Addr)) nc 6) x.1 x.2.1,fun w f=>Ah w f x.2.2.1.kids x.2.2.2.1 x.2.2.2.2.1,fun w f=>AN w f e ea]) (0,r2,t0,ta0,tc0,s1) ⟨Nat.zero_add _,rfl,htb0,hwk2,hw1,Nat.le_refl _,by dsimp only;omega⟩ lE (fun w f hM=>hM.more (B':=[]) (F':=[fun w f=>Az w f (D4 (some (⟨eb,eo,none⟩:Addr)) nc 6) 0 r2]) nE (A1.mem ⟨AK.at hM.f4,trivial⟩) (Af.mem ⟨Az.mono,trivial⟩) |>.less sR sR nE (mR [0,1,7])) ?_
 rintro⟨i,r,t4,ta4,ZH,s4⟩ ⟨hi,hpc,htb4,hwf4,hw4,hrs,hfr4⟩
 dsimp only at hi hpc htb4 hwf4 hw4 hrs hfr4 ⊢
 obtain⟨nr,hnr⟩:∃z,D4 (some (⟨eb,eo,none⟩:Addr)) nc 6=z:=⟨_,rfl⟩
 rw[hnr]
 refine go Ay 6 [] (fun _=>AZ 133 rfl rfl (fun h12=>?_) (fun h12=>?_))
 refine go Ay 6 [] (fun _=>?_)
 have hil:i<r2.len:=by have:=of_decide_eq_true h12;omega
 obtain⟨op3,ln3,co3,tx3,nm3,k3,r,rfl⟩:=Nd.cases1 r oM
 have hi2:i+(r.len+1)=r2.len:=hi
 have hrs2:k3.size+r.size+1≤r2.size:=hrs
 rw[gS] at hwf4
 have hfr5:s4.fresh+1+200002*((k3.size+r.size+1:Nat):Int)≤s.fresh+200002*kids.size:=hfr4
 have hkr:=Nd.len_le r2
 refine CB (α:=Nat×Nat×Option Addr×Nat) (fun x=>nr=some ⟨x.1,x.2.1,none⟩) (fun x=>[⟨x.1,x.2.1+i*6,F9 op3 ln3 co3 tx3 nm3 x.2.2.1 k3.len x.2.2.2⟩]) (fun x=>[fun w f=>AK w f k3 x.2.2.1 x.2.2.2,fun w f=>Az w f nr (i+1) r]) (fun w f hM=>let ⟨b,off,ka,kc,h1,h2,h3,h4⟩:=Az.head hM.f0;⟨(b,off,ka,kc),h1,(oE h2),A1.mem ⟨h3,h4,trivial⟩⟩) (fun x=>Af.mem ⟨AK.mono,Az.mono,trivial⟩) ?_
 rintro⟨eb3,eo3,ka3,kc3⟩ rfl
 refine go Ay 12 [100,0,0,0] (And.intro oM<|y2<|fun b10=>y<|y<|fun _=>DZ rfl rfl (eC CX rfl rfl) (fun _ h=>h) (fun w f hM=>ih w f hM.vl A hA s4 hM.res hM.mz hw4 op3 ln3 co3 nm3 tx3 k3 ka3 kc3 e ea oM oM hwf4.1 hM.f0 heB hM.f4 oM) (fun _=>Au.stab) (fun _=>⟨Ah.mono,trivial⟩) (fun er w2 f2 he hE=>⟨rfl,er,f2,rfl,(by simp only[Bp,h1,h2,h3,h4,h5,h6,h8,h11,Bool.false_eq_true,if_false,if_true];rw[hkk];simp only;rw[hp0];simp only;rw[hpc,show Ko (Co n) e s4 t4 (.cons op3 ln3 co3 tx3 nm3 k3 r)=.error er by rw[Ko,he]]),hE⟩) ?_)
 rintro⟨⟨q5,qa,qc⟩,s5⟩ ⟨hp5,hqb,hw5,hf5⟩
 dsimp only at hp5 hqb hw5 hf5 ⊢
 refine go Ay 9 [0] (fun b11=>y<|fun _=>Fh rfl rfl (fun w f hM=>Al rfl HJ hM.res.blk rfl)<|ZE fun pr=>Ov (α:=CS) (val:=fun _=>tV (AB s5).1 none 0) (q:=fun x=>x=(AB s5).2∧DR x∧x.fresh=s5.fresh+1) (I':=fun x=>Au 64 130 A x) (F':=fun _=>[]) (XX:=fun _ _=>False) rfl rfl (eC K0 rfl rfl) (fun w f hM=>(Fk w f hM.vl A hA s5 hw5 pr hM.res.1 hM.res.2 hM.mz oM).retP) (fun _=>Au.stab) (fun _=>trivial) (fun _ _ _ _ _ h=>h.elim) ?_)
 rintro s6 ⟨hs6,hw6,hw6f⟩
 refine go Ay 5 [0] (fun b12=>y<|fun _=>Dj [0,1,2,3,4,5] Ap (rd [0,1,2,3,6,7] (.br 4 (.br 5 (.br 8 .fin .fin) .fin) .fin)) rfl kR<|AA Ay 6 [3,1,0,2] (y<|y<|y<|y<|fun _=>Ag rfl ?_ Ai))
 refine go Ay 2 [] (fun b13=>fun _=>Ax [1,2,3,4,5,6] rfl<|Ag rfl ?_ Ai)
 refine Dl 0 rfl rfl<|B4 (fun w f=>Ah w f (q5.cons (AB s5).1.one) (some ⟨b13,0,none⟩) 2) (fun w f hM=>YJ hM.b0 hM.f0 (Ah.nil _ _ _ _)) Ah.mono<|B8 (α:=Option Addr×Nat) (val:=fun y=>tV (.con G2 (q5.cons (AB s5).1.one)) y.1 y.2) (q:=fun _=>True) (F':=fun y=>[fun w f=>Ah w f (T1.con G2 (q5.cons (AB s5).1.one)).kids y.1 y.2]) rfl rfl (eC Qf rfl rfl) (fun w f hM=>X6 w f hM.vl q5 (AB s5).1 b13 hqb (B7 _) hM.f0) (fun _=>⟨Ah.mono,trivial⟩) ?_
 rintro⟨ya,yc⟩ -
 have hyb:(T1.con G2 (q5.cons (AB s5).1.one)).bnd:=D0 dC (by simp[T1.len_cons,T1.one,Ty.len]) (T1.bnd_cons.2 ⟨hqb,GK (B7 _)⟩)
 refine go Ay 1 [] (fun _=>Bh [0,1,2,3,4,5] Fu rfl (fun _ h=>.tail _ h)<|Ag rfl ?_ Ai)
 refine DZ rfl rfl (eC Gp rfl rfl) (fun _ h=>h) (fun w f hM=>Dk w f hM.vl A hA s6 hM.res hM.mz hw6 t4 (.con G2 (q5.cons (AB s5).1.one)) ta4 ZH ya yc htb4 hyb hM.f6 hM.f0 ln3 co3) (fun _=>Au.stab) (fun _=>trivial) (fun er w2 f2 he hE=>⟨rfl,er,f2,rfl,(by simp only[Bp,h1,h2,h3,h4,h5,h6,h8,h11,Bool.false_eq_true,if_false,if_true];rw[hkk];simp only;rw[hp0];simp only;rw[hpc,show Ko (Co n) e s4 t4 (.cons op3 ln3 co3 tx3 nm3 k3 r)=.error er by rw[Ko,hp5];simp only;rw[← hs6,he]]),hE⟩) ?_
 rintro s7 ⟨hh7,hw7,hf7⟩
 exact go Ay 1 [] (fun _=>Bh [0,1,2,3,4,5] Fu rfl (fun _ h=>.tail _ h)<|B3<|go Ay 11 [0,3] (y<|y<|And.intro ⟨oM,oM⟩<|fun _=>Eb ((i+1,r,(AB s5).1,none,0,s7)) (show r.len<(Nd.cons op3 ln3 co3 tx3 nm3 k3 r).len from Nat.lt_succ_self _) ⟨show i+1+r.len=_ by omega,hpc.trans (VU hp5 (by rw[← hs6];exact hh7)),B7 _,hwf4.2,hw7,show r.size≤_ by omega,show s7.fresh+1+200002*(r.size:Int)≤_ by omega⟩ lE (fun w f hM=>⟨_,(hM.more (B':=[]) (F':=[fun w f=>Ah w f (AB s5).1.kids none 0]) nE (A1.mem ⟨Ah.nil _ _ _ _,trivial⟩) (Af.mem ⟨Ah.mono,trivial⟩)).less (sD (sD (sD (sK (sK (sK sZ)))))) sR nE (mR [5,0,8])⟩)))
 refine go Ay 3 [] (fun _=>Hc<|go Ay 3 [] (fun _=>?_))
 obtain rfl:r=.nil:=Nd.len0 (by have:=of_decide_eq_false h12;omega)
 have hpc2:Ko (Co n) e s1 t0 r2=.ok (t4,s4):=hpc
 have hfr5:s4.fresh+1≤s.fresh+200002*kids.size:=by have h9:s4.fresh+1+200002*((0:Nat):Int)≤_:=hfr4;omega
 exact go Ay 8 [0,1] (y<|y<|fun _=>AY (fun w f hM=>AI rfl (Ac rfl AJ hM.k1 rfl)) (fun w f hM=>⟨((t4,ta4,ZH),s4),f,rfl,⟨(by simp only[Bp,h1,h2,h3,h4,h5,h6,h8,h11,Bool.false_eq_true,if_false,if_true];rw[hkk];simp only;rw[hp0];simp only;rw[hpc2]),htb4,hw4,by dsimp only;omega⟩,hM.exm,hM.res,⟨hM.f1,trivial⟩⟩))
 refine go Ay 7 [] (fun _=>AZ 157 rfl rfl (fun h13=>?_) (fun h13=>?_))
 refine go Ay 2 [] (fun _=>?_)
 have hwk:=tP ((beq_iff_eq.1 h13)▸hwf)
 obtain⟨op2,ln2,co2,tx2,nm2,k2,r2,hkk⟩:=CK hwk dC
 have hwk1:GY op2 k2:=by have h9:=hwk;rw[hkk] at h9;exact h9.1
 have hwk2:r2.wfm 3:=by have h9:=hwk;rw[hkk] at h9;exact h9.2
 obtain⟨op3,ln3,co3,tx3,nm3,k3,r3,rfl⟩:=CK hwk2 dC
 rw[WC] at hwk2
 have hks:kids.size=k2.size+(Nd.cons op3 ln3 co3 tx3 nm3 k3 r3).size+1:=by rw[hkk];rfl
 have hkl2:kids.len=(Nd.cons op3 ln3 co3 tx3 nm3 k3 r3).len+1:=by rw[hkk];rfl
 have hks2:(Nd.cons op3 ln3 co3 tx3 nm3 k3 r3).size=k3.size+r3.size+1:=rfl
 have hkl3:(Nd.cons op3 ln3 co3 tx3 nm3 k3 r3).len=r3.len+1:=rfl
 refine B4 (fun w f=>Az w f na 0 (.cons op2 ln2 co2 tx2 nm2 k2 (Nd.cons op3 ln3 co3 tx3 nm3 k3 r3))) (fun w f hM=>by rw[← hkk];exact AK.at hM.f0) Az.mono<|CB (α:=Nat×Nat×Option Addr×Nat) (fun x=>na=some ⟨x.1,x.2.1,none⟩) (fun x=>[⟨x.1,x.2.1+0*6,F9 op2 ln2 co2 tx2 nm2 x.2.2.1 k2.len x.2.2.2⟩]) (fun x=>[fun w f=>AK w f k2 x.2.2.1 x.2.2.2,fun w f=>Az w f na 1 (Nd.cons op3 ln3 co3 tx3 nm3 k3 r3)]) (fun w f hM=>let ⟨b,off,ka,kc,h1,h2,h3,h4⟩:=Az.head hM.f0;⟨(b,off,ka,kc),h1,(oE h2),A1.mem ⟨h3,h4,trivial⟩⟩) (fun x=>Af.mem ⟨AK.mono,Az.mono,trivial⟩) ?_
 rintro⟨eb,eo,ka2,kc2⟩ rfl
 refine CB (α:=Nat×Nat×Option Addr×Nat) (fun x=>(some (⟨eb,eo,none⟩:Addr))=some ⟨x.1,x.2.1,none⟩) (fun x=>[⟨x.1,x.2.1+1*6,F9 op3 ln3 co3 tx3 nm3 x.2.2.1 k3.len x.2.2.2⟩]) (fun x=>[fun w f=>AK w f k3 x.2.2.1 x.2.2.2,fun w f=>Az w f (some (⟨eb,eo,none⟩:Addr)) 2 r3]) (fun w f hM=>let ⟨b,off,ka,kc,h1,h2,h3,h4⟩:=Az.head hM.f1;⟨(b,off,ka,kc),h1,(oE h2),A1.mem ⟨h3,h4,trivial⟩⟩) (fun x=>Af.mem ⟨AK.mono,Az.mono,trivial⟩) ?_
 rintro⟨eb3,eo3,ka3,kc3⟩ h43
 obtain⟨rfl,rfl⟩:eb=eb3∧eo=eo3:=by cases h43;exact⟨rfl,rfl⟩
 refine go Ay 6 [101,0] (And.intro oM<|y2<|fun _=>DZ rfl rfl (eC CX rfl rfl) (fun _ h=>h) (fun w f hM=>ih w f hM.vl A hA s hM.res hM.mz hw op2 ln2 co2 nm2 tx2 k2 ka2 kc2 e ea oM oM hwk1 hM.f2 heB hM.f6 oM) (fun _=>Au.stab) (fun _=>⟨Ah.mono,trivial⟩) (fun er w2 f2 he hE=>⟨rfl,er,f2,rfl,(by simp only[Bp,h1,h2,h3,h4,h5,h6,h8,h11,h13,Bool.false_eq_true,if_false,if_true];rw[hkk];simp only;rw[he]),hE⟩) ?_)
 rintro⟨⟨t0,ta0,tc0⟩,s1⟩ ⟨hp0,htb0,hw1,hf1⟩
 dsimp only at hp0 htb0 hw1 hf1 ⊢
 refine go Ay 12 [0,2] (fun b14=>y<|y<|fun _=>AZ 167 rfl rfl (fun h14=>?_) (fun h14=>?_))
 refine go Ay 1 [] (fun _=>Dj [0,1,2] Ap (rd [0,1,2,3,4,5,6,7,9,10] (.br 8 (.br 11 (.rd 12 .fin) .fin) .fin)) rfl kR<|AA Ay 10 [2,0,101,0,2] (y<|y<|And.intro oM<|y2<|y<|fun _=>Ag rfl ?_ Ai))
 refine B8 rfl rfl (eC Th rfl rfl) (fun w f hM=>K5 (n+1) w f hM.vl op2 ln2 co2 nm2 tx2 k2 ka2 kc2 oM oM hM.f3) (fun x=>trivial) ?_
 rintro⟨⟩ -
 refine go Ay 1 [] (fun _=>Ax [0,1,2] rfl<|Ag rfl ?_ Ai)
 refine DZ rfl rfl (eC IH rfl rfl) (fun _ h=>h) (fun w f hM=>Ew w f hM.vl A hA s1 hM.res hM.mz hw1 e ea heB hM.f7 tx t0 ta0 tc0 htb0 hM.f0 (C2 (n+1) op2 k2) ln co) (fun _=>Au.stab) (fun _=>⟨AN.mono,trivial⟩) (fun er w2 f2 he hE=>⟨rfl,er,f2,rfl,(by simp only[Bp,h1,h2,h3,h4,h5,h6,h8,h11,h13,Bool.false_eq_true,if_false,if_true];rw[hkk];simp only;rw[hp0];simp only;rw[if_neg (by rw[show (tx==[95])=false from FL h14];decide),he]),hE⟩) ?_
 rintro⟨e1,ea1⟩ ⟨he1,heB1⟩
 dsimp only at he1 heB1 ⊢
 refine go Ay 1 [] (fun _=>Ax [0,1,2] rfl<|AA Ay 1 [] (fun _=>B3<|go Ay 8 [100,0] (And.intro oM<|y2<|fun _=>DZ rfl rfl (eC CX rfl rfl) (fun _ h=>h) (fun w f hM=>ih w f hM.vl A hA s1 hM.res hM.mz hw1 op3 ln3 co3 nm3 tx3 k3 ka3 kc3 e1 ea1 oM oM hwk2 hM.f2 heB1 hM.f0 oM) (fun _=>Au.stab) (fun _=>⟨Ah.mono,trivial⟩) (fun er w2 f2 he hE=>⟨rfl,er,f2,rfl,(by simp only[Bp,h1,h2,h3,h4,h5,h6,h8,h11,h13,Bool.false_eq_true,if_false,if_true];rw[hkk];simp only;rw[hp0];simp only;rw[if_neg (by rw[show (tx==[95])=false from FL h14];decide),he1];simp only;exact he),hE⟩) ?_)))
 rintro⟨⟨t1,ta1,P6⟩,s2⟩ ⟨hp1,htb1,hw2,hf2⟩
 dsimp only at hp1 htb1 hw2 hf2 ⊢
 exact go Ay 6 [1] (y<|fun _=>AY (fun w f hM=>AI rfl (Ac rfl AJ hM.k1 rfl)) (fun w f hM=>⟨((t1,ta1,P6),s2),f,rfl,⟨(by simp only[Bp,h1,h2,h3,h4,h5,h6,h8,h11,h13,Bool.false_eq_true,if_false,if_true];rw[hkk];simp only;rw[hp0];simp only;rw[if_neg (by rw[show (tx==[95])=false from FL h14];decide),he1];simp only;exact hp1),htb1,hw2,by dsimp only;omega⟩,hM.exm,hM.res,⟨hM.f0,trivial⟩⟩))
 refine go Ay 10 [100,0] (And.intro oM<|y2<|fun _=>DZ rfl rfl (eC CX rfl rfl) (fun _ h=>h) (fun w f hM=>ih w f hM.vl A hA s1 hM.res hM.mz hw1 op3 ln3 co3 nm3 tx3 k3 ka3 kc3 e ea oM oM hwk2 hM.f1 heB hM.f7 oM) (fun _=>Au.stab) (fun _=>⟨Ah.mono,trivial⟩) (fun er w2 f2 he hE=>⟨rfl,er,f2,rfl,(by simp only[Bp,h1,h2,h3,h4,h5,h6,h8,h11,h13,Bool.false_eq_true,if_false,if_true];rw[hkk];simp only;rw[hp0];simp only;rw[if_pos (show (tx==[95])=true from Gn h14)];exact he),hE⟩) ?_)
 rintro⟨⟨t1,ta1,P6⟩,s2⟩ ⟨hp1,htb1,hw2,hf2⟩
 dsimp only at hp1 htb1 hw2 hf2 ⊢
 exact go Ay 6 [1] (y<|fun _=>AY (fun w f hM=>AI rfl (Ac rfl AJ hM.k1 rfl)) (fun w f hM=>⟨((t1,ta1,P6),s2),f,rfl,⟨(by simp only[Bp,h1,h2,h3,h4,h5,h6,h8,h11,h13,Bool.false_eq_true,if_false,if_true];rw[hkk];simp only;rw[hp0];simp only;rw[if_pos (show (tx==[95])=true from Gn h14)];exact hp1),htb1,hw2,by dsimp only;omega⟩,hM.exm,hM.res,⟨hM.f0,trivial⟩⟩))
 refine go Ay 7 [] (fun _=>AZ 186 rfl rfl (fun h15=>?_) (fun h15=>?_))
 refine go Ay 2 [] (fun _=>?_)
 have hwk:=rU ((beq_iff_eq.1 h15)▸hwf)
 obtain⟨op2,ln2,co2,tx2,nm2,k2,r2,hkk⟩:=CK hwk dC
 have hwk1:GY op2 k2:=by have h9:=hwk;rw[hkk] at h9;exact h9.1
 have hwk2:r2.wfm 3:=by have h9:=hwk;rw[hkk] at h9;exact h9.2
 obtain⟨op3,ln3,co3,tx3,nm3,k3,r3,rfl⟩:=CK hwk2 dC
 rw[WC] at hwk2
 have hks:kids.size=k2.size+(Nd.cons op3 ln3 co3 tx3 nm3 k3 r3).size+1:=by rw[hkk];rfl
 have hkl2:kids.len=(Nd.cons op3 ln3 co3 tx3 nm3 k3 r3).len+1:=by rw[hkk];rfl
 have hks2:(Nd.cons op3 ln3 co3 tx3 nm3 k3 r3).size=k3.size+r3.size+1:=rfl
 have hkl3:(Nd.cons op3 ln3 co3 tx3 nm3 k3 r3).len=r3.len+1:=rfl
 refine B4 (fun w f=>Az w f na 0 (.cons op2 ln2 co2 tx2 nm2 k2 (Nd.cons op3 ln3 co3 tx3 nm3 k3 r3))) (fun w f hM=>by rw[← hkk];exact AK.at hM.f0) Az.mono<|CB (α:=Nat×Nat×Option Addr×Nat) (fun x=>na=some ⟨x.1,x.2.1,none⟩) (fun x=>[⟨x.1,x.2.1+0*6,F9 op2 ln2 co2 tx2 nm2 x.2.2.1 k2.len x.2.2.2⟩]) (fun x=>[fun w f=>AK w f k2 x.2.2.1 x.2.2.2,fun w f=>Az w f na 1 (Nd.cons op3 ln3 co3 tx3 nm3 k3 r3)]) (fun w f hM=>let ⟨b,off,ka,kc,h1,h2,h3,h4⟩:=Az.head hM.f0;⟨(b,off,ka,kc),h1,(oE h2),A1.mem ⟨h3,h4,trivial⟩⟩) (fun x=>Af.mem ⟨AK.mono,Az.mono,trivial⟩) ?_
 rintro⟨eb,eo,ka2,kc2⟩ rfl
 refine CB (α:=Nat×Nat×Option Addr×Nat) (fun x=>(some (⟨eb,eo,none⟩:Addr))=some ⟨x.1,x.2.1,none⟩) (fun x=>[⟨x.1,x.2.1+1*6,F9 op3 ln3 co3 tx3 nm3 x.2.2.1 k3.len x.2.2.2⟩]) (fun x=>[fun w f=>AK w f k3 x.2.2.1 x.2.2.2,fun w f=>Az w f (some (⟨eb,eo,none⟩:Addr)) 2 r3]) (fun w f hM=>let ⟨b,off,ka,kc,h1,h2,h3,h4⟩:=Az.head hM.f1;⟨(b,off,ka,kc),h1,(oE h2),A1.mem ⟨h3,h4,trivial⟩⟩) (fun x=>Af.mem ⟨AK.mono,Az.mono,trivial⟩) ?_
 rintro⟨eb3,eo3,ka3,kc3⟩ h43
 obtain⟨rfl,rfl⟩:eb=eb3∧eo=eo3:=by cases h43;exact⟨rfl,rfl⟩
 refine Dj [1] Ap (rd [0,1,2,3,4,5,6,7,8,9,10,12,13] (.br 11 (.br 14 (.br 15 (.br 16 .fin .fin) .fin) .fin) .fin)) rfl kR<|AA Ay 13 [100,0,0,0,0] (And.intro oM<|y2<|y<|y<|y<|fun _=>Ag rfl ?_ Ai)
 refine DZ rfl rfl (eC XB rfl rfl) (fun _ h=>h) (fun w f hM=>Wu n ih w f hM.vl A hA s hM.res hM.mz hw op ln co nm tx kids op2 ln2 co2 nm2 tx2 k2 (.cons op3 ln3 co3 tx3 nm3 k3 r3) hkk (some ⟨eb,eo,none⟩) nc e ea oM oM hwk1 hM.f5 heB hM.f6 oM) (fun _=>Au.stab) (fun _=>⟨Ah.mono,trivial⟩) (fun er w2 f2 he hE=>⟨rfl,er,f2,rfl,(by simp only[Bp,h1,h2,h3,h4,h5,h6,h8,h11,h13,h15,Bool.false_eq_true,if_false,if_true];rw[hkk];simp only;rw[he]),hE⟩) ?_
 rintro⟨⟨t0,ta0,tc0⟩,s1⟩ ⟨hrc,htb0,hw1,hf1⟩
 dsimp only at hrc htb0 hw1 hf1 ⊢
 refine go Ay 1 [] (fun _=>Ax [1] rfl<|Ag rfl ?_ Ai)
 refine DZ rfl rfl (eC IH rfl rfl) (fun _ h=>h) (fun w f hM=>Ew w f hM.vl A hA s1 hM.res hM.mz hw1 e ea heB hM.f7 tx t0 ta0 tc0 htb0 hM.f0 true ln co) (fun _=>Au.stab) (fun _=>⟨AN.mono,trivial⟩) (fun er w2 f2 he hE=>⟨rfl,er,f2,rfl,(by simp only[Bp,h1,h2,h3,h4,h5,h6,h8,h11,h13,h15,Bool.false_eq_true,if_false,if_true];rw[hkk];simp only;rw[hrc];simp only;rw[he]),hE⟩) ?_
 rintro⟨e1,ea1⟩ ⟨he1,heB1⟩
 dsimp only at he1 heB1 ⊢
 refine go Ay 1 [] (fun _=>Ax [1] rfl<|Ag rfl ?_ Ai)
 refine DZ rfl rfl (eC CX rfl rfl) (fun _ h=>h) (fun w f hM=>ih w f hM.vl A hA s1 hM.res hM.mz hw1 op3 ln3 co3 nm3 tx3 k3 ka3 kc3 e1 ea1 oM oM hwk2 hM.f2 heB1 hM.f0 oM) (fun _=>Au.stab) (fun _=>⟨Ah.mono,trivial⟩) (fun er w2 f2 he hE=>⟨rfl,er,f2,rfl,(by simp only[Bp,h1,h2,h3,h4,h5,h6,h8,h11,h13,h15,Bool.false_eq_true,if_false,if_true];rw[hkk];simp only;rw[hrc];simp only;rw[he1];simp only;exact he),hE⟩) ?_
 rintro⟨⟨t1,ta1,P6⟩,s2⟩ ⟨hp1,htb1,hw2,hf2⟩
 dsimp only at hp1 htb1 hw2 hf2 ⊢
 refine go Ay 1 [] (fun _=>Ax [1] rfl<|Ag rfl ?_ Ai)
 exact go Ay 2 [0] (y<|fun _=>Ax [1] rfl<|B3<|go Ay 4 [] (fun _=>AY (fun w f hM=>AI rfl (Ac rfl AJ hM.k0 rfl)) (fun w f hM=>⟨((t1,ta1,P6),s2),f,rfl,⟨(by simp only[Bp,h1,h2,h3,h4,h5,h6,h8,h11,h13,h15,Bool.false_eq_true,if_false,if_true];rw[hkk];simp only;rw[hrc];simp only;rw[he1];simp only;exact hp1),htb1,hw2,by dsimp only;omega⟩,hM.exm,hM.res,⟨hM.f0,trivial⟩⟩)))
 refine go Ay 7 [] (fun _=>AZ 204 rfl rfl (fun DW=>?_) (fun DW=>?_))
 refine go Ay 2 [] (fun _=>?_)
 have hwk:=qW ((beq_iff_eq.1 DW)▸hwf)
 obtain⟨op2,ln2,co2,tx2,nm2,k2,r2,hkk⟩:=CK hwk dC
 have hwk1:GY op2 k2:=by have h9:=hwk;rw[hkk] at h9;exact h9.1
 have hwk2:r2.wfm 6:=by have h9:=hwk;rw[hkk] at h9;exact h9.2
 obtain⟨op3,ln3,co3,tx3,nm3,k3,r3,rfl⟩:=CK hwk2 dC
 rw[pP] at hwk2
 obtain⟨hwk2,hwk3⟩:=hwk2
 obtain⟨op4,ln4,co4,tx4,nm4,k4,r4,rfl⟩:=CK hwk3 dC
 rw[WC] at hwk3
 have hks:kids.size=k2.size+(Nd.cons op3 ln3 co3 tx3 nm3 k3 (.cons op4 ln4 co4 tx4 nm4 k4 r4)).size+1:=by rw[hkk];rfl
 have hkl2:kids.len=(Nd.cons op3 ln3 co3 tx3 nm3 k3 (.cons op4 ln4 co4 tx4 nm4 k4 r4)).len+1:=by rw[hkk];rfl
 have hks2:(Nd.cons op3 ln3 co3 tx3 nm3 k3 (.cons op4 ln4 co4 tx4 nm4 k4 r4)).size=k3.size+(k4.size+r4.size+1)+1:=rfl
 have hkl3:(Nd.cons op3 ln3 co3 tx3 nm3 k3 (.cons op4 ln4 co4 tx4 nm4 k4 r4)).len=r4.len+1+1:=rfl
 refine B4 (fun w f=>Az w f na 0 (.cons op2 ln2 co2 tx2 nm2 k2 (Nd.cons op3 ln3 co3 tx3 nm3 k3 (.cons op4 ln4 co4 tx4 nm4 k4 r4)))) (fun w f hM=>by rw[← hkk];exact AK.at hM.f0) Az.mono<|CB (α:=Nat×Nat×Option Addr×Nat) (fun x=>na=some ⟨x.1,x.2.1,none⟩) (fun x=>[⟨x.1,x.2.1+0*6,F9 op2 ln2 co2 tx2 nm2 x.2.2.1 k2.len x.2.2.2⟩]) (fun x=>[fun w f=>AK w f k2 x.2.2.1 x.2.2.2,fun w f=>Az w f na 1 (Nd.cons op3 ln3 co3 tx3 nm3 k3 (.cons op4 ln4 co4 tx4 nm4 k4 r4))]) (fun w f hM=>let ⟨b,off,ka,kc,h1,h2,h3,h4⟩:=Az.head hM.f0;⟨(b,off,ka,kc),h1,(oE h2),A1.mem ⟨h3,h4,trivial⟩⟩) (fun x=>Af.mem ⟨AK.mono,Az.mono,trivial⟩) ?_
 rintro⟨eb,eo,ka2,kc2⟩ rfl
 refine CB (α:=Nat×Nat×Option Addr×Nat) (fun x=>(some (⟨eb,eo,none⟩:Addr))=some ⟨x.1,x.2.1,none⟩) (fun x=>[⟨x.1,x.2.1+1*6,F9 op3 ln3 co3 tx3 nm3 x.2.2.1 k3.len x.2.2.2⟩]) (fun x=>[fun w f=>AK w f k3 x.2.2.1 x.2.2.2,fun w f=>Az w f (some (⟨eb,eo,none⟩:Addr)) 2 (Nd.cons op4 ln4 co4 tx4 nm4 k4 r4)]) (fun w f hM=>let ⟨b,off,ka,kc,h1,h2,h3,h4⟩:=Az.head hM.f1;⟨(b,off,ka,kc),h1,(oE h2),A1.mem ⟨h3,h4,trivial⟩⟩) (fun x=>Af.mem ⟨AK.mono,Az.mono,trivial⟩) ?_
 rintro⟨eb3,eo3,ka3,kc3⟩ h43
 obtain⟨rfl,rfl⟩:eb=eb3∧eo=eo3:=by cases h43;exact⟨rfl,rfl⟩
 refine CB (α:=Nat×Nat×Option Addr×Nat) (fun x=>(some (⟨eb,eo,none⟩:Addr))=some ⟨x.1,x.2.1,none⟩) (fun x=>[⟨x.1,x.2.1+2*6,F9 op4 ln4 co4 tx4 nm4 x.2.2.1 k4.len x.2.2.2⟩]) (fun x=>[fun w f=>AK w f k4 x.2.2.1 x.2.2.2,fun w f=>Az w f (some (⟨eb,eo,none⟩:Addr)) 3 r4]) (fun w f hM=>let ⟨b,off,ka,kc,h1,h2,h3,h4⟩:=Az.head hM.f1;⟨(b,off,ka,kc),h1,(oE h2),A1.mem ⟨h3,h4,trivial⟩⟩) (fun x=>Af.mem ⟨AK.mono,Az.mono,trivial⟩) ?_
 rintro⟨eb4,eo4,ka4,kc4⟩ h44
 obtain⟨rfl,rfl⟩:eb=eb4∧eo=eo4:=by cases h44;exact⟨rfl,rfl⟩
 refine Dj [0,1] Ap (rd [0,2,3,4,5,6,8,9,10,11] (.br 1 (.br 7 (.br 12 .fin .fin) .fin) .fin)) rfl kR<|AA Ay 10 [102,0,102,1] (And.intro oM<|y2<|And.intro oM<|y2<|fun _=>Ag rfl ?_ Ai)
 refine B8 rfl rfl (eC B5 rfl rfl) (fun w f hM=>Bx w f hM.vl [98,111,111,108]) (fun x=>trivial) ?_
 rintro⟨⟩ -
 refine go Ay 1 [] (fun _=>Ax [0,1] rfl<|Ag rfl ?_ Ai)
 refine DZ rfl rfl (eC CX rfl rfl) (fun _ h=>h) (fun w f hM=>ih w f hM.vl A hA s hM.res hM.mz hw op2 ln2 co2 nm2 tx2 k2 ka2 kc2 e ea oM oM hwk1 hM.f4 heB hM.f8 oM) (fun _=>Au.stab) (fun _=>⟨Ah.mono,trivial⟩) (fun er w2 f2 he hE=>⟨rfl,er,f2,rfl,(by simp only[Bp,h1,h2,h3,h4,h5,h6,h8,h11,h13,h15,DW,Bool.false_eq_true,if_false,if_true];rw[hkk];simp only;rw[he]),hE⟩) ?_
 rintro⟨⟨t0,ta0,tc0⟩,s1⟩ ⟨hp0,htb0,hw1,hf1⟩
 dsimp only at hp0 htb0 hw1 hf1 ⊢
 refine go Ay 1 [] (fun _=>Ax [0,1] rfl<|Ag rfl ?_ Ai)
 refine DZ rfl rfl (eC Gp rfl rfl) (fun _ h=>h) (fun w f hM=>Dk w f hM.vl A hA s1 hM.res hM.mz hw1 (c0 bB) t0 none 0 ta0 tc0 (Df dC) htb0 (Ah.nil _ _ _ _) hM.f0 ln2 co2) (fun _=>Au.stab) (fun _=>trivial) (fun er w2 f2 he hE=>⟨rfl,er,f2,rfl,(by simp only[Bp,h1,h2,h3,h4,h5,h6,h8,h11,h13,h15,DW,Bool.false_eq_true,if_false,if_true];rw[hkk];simp only;rw[hp0];simp only;rw[he]),hE⟩) ?_
 rintro s2 ⟨hh2,hw2,hf2⟩
 refine go Ay 1 [] (fun _=>Ax [0,1] rfl<|B3<|go Ay 8 [101,0] (And.intro oM<|y2<|fun _=>DZ rfl rfl (eC CX rfl rfl) (fun _ h=>h) (fun w f hM=>ih w f hM.vl A hA s2 hM.res hM.mz hw2 op3 ln3 co3 nm3 tx3 k3 ka3 kc3 e ea oM oM hwk2 hM.f3 heB hM.f9 oM) (fun _=>Au.stab) (fun _=>⟨Ah.mono,trivial⟩) (fun er w2 f2 he hE=>⟨rfl,er,f2,rfl,(by simp only[Bp,h1,h2,h3,h4,h5,h6,h8,h11,h13,h15,DW,Bool.false_eq_true,if_false,if_true];rw[hkk];simp only;rw[hp0];simp only;rw[hh2];simp only;rw[he]),hE⟩) ?_))
 rintro⟨⟨t1,ta1,P6⟩,s3⟩ ⟨hp1,htb1,hw3,hf3⟩
 dsimp only at hp1 htb1 hw3 hf3 ⊢
 refine go Ay 5 [0] (fun b15=>y<|fun _=>Dj [0,1,2] Ap (rd [0,1,2,3,4,5,6,8,9,10,11] (.br 7 (.br 12 .fin .fin) .fin)) rfl kR<|AA Ay 11 [0,100,0,100,1] (y<|And.intro oM<|y2<|And.intro oM<|y2<|fun _=>Ag rfl ?_ Ai))
 refine DZ rfl rfl (eC CX rfl rfl) (fun _ h=>h) (fun w f hM=>ih w f hM.vl A hA s3 hM.res hM.mz hw3 op4 ln4 co4 nm4 tx4 k4 ka4 kc4 e ea oM oM hwk3 hM.f2 heB hM.f10 oM) (fun _=>Au.stab) (fun _=>⟨Ah.mono,trivial⟩) (fun er w2 f2 he hE=>⟨rfl,er,f2,rfl,(by simp only[Bp,h1,h2,h3,h4,h5,h6,h8,h11,h13,h15,DW,Bool.false_eq_true,if_false,if_true];rw[hkk];simp only;rw[hp0];simp only;rw[hh2];simp only;rw[hp1];simp only;rw[he]),hE⟩) ?_
 rintro⟨⟨t2,ta2,GB⟩,s4⟩ ⟨hp2,htb2,hw4,hf4⟩
 dsimp only at hp2 htb2 hw4 hf4 ⊢
 refine go Ay 1 [] (fun _=>Ax [0,1,2] rfl<|Ag rfl ?_ Ai)
 refine DZ rfl rfl (eC Gp rfl rfl) (fun _ h=>h) (fun w f hM=>Dk w f hM.vl A hA s4 hM.res hM.mz hw4 t1 t2 ta1 P6 ta2 GB htb1 htb2 hM.f1 hM.f0 ln4 co4) (fun _=>Au.stab) (fun _=>trivial) (fun er w2 f2 he hE=>⟨rfl,er,f2,rfl,(by simp only[Bp,h1,h2,h3,h4,h5,h6,h8,h11,h13,h15,DW,Bool.false_eq_true,if_false,if_true];rw[hkk];simp only;rw[hp0];simp only;rw[hh2];simp only;rw[hp1];simp only;rw[hp2];simp only;rw[he]),hE⟩) ?_
 rintro s5 ⟨hh3,hw5,hf5⟩
 exact go Ay 1 [] (fun _=>Ax [0,1,2] rfl<|B3<|go Ay 10 [0,1] (y<|y<|fun _=>AY (fun w f hM=>AI rfl (Ac rfl AJ hM.k1 rfl)) (fun w f hM=>⟨((t1,ta1,P6),s5),f,rfl,⟨(by simp only[Bp,h1,h2,h3,h4,h5,h6,h8,h11,h13,h15,DW,Bool.false_eq_true,if_false,if_true];rw[hkk];simp only;rw[hp0];simp only;rw[hh2];simp only;rw[hp1];simp only;rw[hp2];simp only;rw[hh3]),htb1,hw5,by dsimp only;omega⟩,hM.exm,hM.res,⟨hM.f1,trivial⟩⟩)))
 refine go Ay 7 [] (fun _=>AZ 239 rfl rfl (fun h17=>?_) (fun h17=>?_))
 refine go Ay 6 [] (fun _=>?_)
 have hwk:=pL ((beq_iff_eq.1 h17)▸hwf)
 refine DZ rfl rfl (eC X5 rfl rfl) (fun _ h=>h) (fun w f hM=>Pn n ih w f hM.vl A hA s hM.res hM.mz hw kids na nc e ea oM hsz hwk.2 hM.f0 heB hM.f1 oM) (fun _=>Au.stab) (fun _=>⟨Ah.mono,trivial⟩) (fun er w2 f2 he hE=>⟨rfl,er,f2,rfl,(by simp only[Bp,h1,h2,h3,h4,h5,h6,h8,h11,h13,h15,DW,h17,Bool.false_eq_true,if_false,if_true];rw[he]),hE⟩) ?_
 rintro⟨⟨l,la,lc⟩,s1⟩ ⟨hea,hll,hlb,hw1,hf1⟩
 dsimp only at hea hll hlb hw1 hf1 ⊢
 have hk0:=hwk.1
 refine go Ay 4 [] (fun _=>?_)
 obtain⟨m,hm2⟩:∃m,l.len=m+1:=⟨l.len-1,oM⟩
 have hlg:=Ty.last_get hm2
 refine CB (α:=Nat×Nat×Option Addr×Nat) (fun x=>la=some ⟨x.1,x.2.1,none⟩) (fun x=>[⟨x.1,x.2.1+((l.len:Int)-1).toNat*4,tC l.last x.2.2.1 x.2.2.2⟩]) (fun x=>[fun w f=>Ah w f l.last.kids x.2.2.1 x.2.2.2]) (fun w f hM=>let ⟨b,off,ka,kc,h1,h2,h3⟩:=Ah.nth hM.f0 hlg;⟨(b,off,ka,kc),h1,(fun e he=>by cases he with|head=>(rw[show ((l.len:Int)-1).toNat=m by omega];exact h2)|tail _ h=>cases h),A1.mem ⟨h3,trivial⟩⟩) (fun x=>Af.mem ⟨Ah.mono,trivial⟩) ?_
 rintro⟨lb,lo,ta,tc⟩ rfl
 exact go Ay 13 [100,0,0] (And.intro ⟨oM,oM⟩<|And.intro oM<|y2<|y<|fun _=>AY (fun w f hM=>AI rfl (Ac rfl AJ hM.k0 rfl)) (fun w f hM=>⟨((l.last,ta,tc),s1),f,rfl,⟨(by simp only[Bp,h1,h2,h3,h4,h5,h6,h8,h11,h13,h15,DW,h17,Bool.false_eq_true,if_false,if_true];rw[hea]),(HE hlb hlg),hw1,by dsimp only;omega⟩,hM.exm,hM.res,⟨hM.f0,trivial⟩⟩))
 refine go Ay 7 [] (fun _=>AZ 251 rfl rfl (fun h18=>?_) (fun h18=>?_))
 refine go Ay 6 [] (fun _=>?_)
 have hwk:=rP ((beq_iff_eq.1 h18)▸hwf)
 refine DZ rfl rfl (eC X5 rfl rfl) (fun _ h=>h) (fun w f hM=>Pn n ih w f hM.vl A hA s hM.res hM.mz hw kids na nc e ea oM hsz hwk hM.f0 heB hM.f1 oM) (fun _=>Au.stab) (fun _=>⟨Ah.mono,trivial⟩) (fun er w2 f2 he hE=>⟨rfl,er,f2,rfl,(by simp only[Bp,h1,h2,h3,h4,h5,h6,h8,h11,h13,h15,DW,h17,h18,Bool.false_eq_true,if_false,if_true];rw[he]),hE⟩) ?_
 rintro⟨⟨l,la,lc⟩,s1⟩ ⟨hea,hll,hlb,hw1,hf1⟩
 dsimp only at hea hll hlb hw1 hf1 ⊢
 refine B8 rfl rfl (eC B5 rfl rfl) (fun w f hM=>CU w f hM.vl RD l la lc oM hM.f0) (fun x=>⟨Ah.mono,trivial⟩) ?_
 rintro⟨ta,tc⟩ -
 exact go Ay 6 [0] (y<|fun _=>AY (fun w f hM=>AI rfl (Ac rfl AJ hM.k0 rfl)) (fun w f hM=>⟨(((.con RD l),ta,tc),s1),f,rfl,⟨(by simp only[Bp,h1,h2,h3,h4,h5,h6,h8,h11,h13,h15,DW,h17,h18,Bool.false_eq_true,if_false,if_true];rw[hea]),(D0 dC oM hlb),hw1,by dsimp only;omega⟩,hM.exm,hM.res,⟨hM.f0,trivial⟩⟩))
 refine go Ay 7 [] (fun _=>AZ 258 rfl rfl (fun h19=>?_) (fun h19=>?_))
 refine go Ay 2 [] (fun _=>?_)
 have hwk:=sN ((beq_iff_eq.1 h19)▸hwf)
 obtain⟨op2,ln2,co2,tx2,nm2,k2,r2,hkk⟩:=CK hwk dC
 have hwk1:GY op2 k2:=by have h9:=hwk;rw[hkk] at h9;exact h9.1
 have hwk2:r2.wfm 1:=by have h9:=hwk;rw[hkk] at h9;exact h9.2
 have hks:kids.size=k2.size+r2.size+1:=by rw[hkk];rfl
 have hkl2:kids.len=r2.len+1:=by rw[hkk];rfl
 refine B4 (fun w f=>AK w f r2 (D4 na nc 6) (nc-1)) (fun w f hM=>AK.rest (hkk▸hM.f0)) AK.mono<|B4 (fun w f=>Az w f na 0 (.cons op2 ln2 co2 tx2 nm2 k2 r2)) (fun w f hM=>by rw[← hkk];exact AK.at hM.f1) Az.mono<|CB (α:=Nat×Nat×Option Addr×Nat) (fun x=>na=some ⟨x.1,x.2.1,none⟩) (fun x=>[⟨x.1,x.2.1+0*6,F9 op2 ln2 co2 tx2 nm2 x.2.2.1 k2.len x.2.2.2⟩]) (fun x=>[fun w f=>AK w f k2 x.2.2.1 x.2.2.2,fun w f=>Az w f na 1 r2]) (fun w f hM=>let ⟨b,off,ka,kc,h1,h2,h3,h4⟩:=Az.head hM.f0;⟨(b,off,ka,kc),h1,(oE h2),A1.mem ⟨h3,h4,trivial⟩⟩) (fun x=>Af.mem ⟨AK.mono,Az.mono,trivial⟩) ?_
 rintro⟨eb,eo,ka2,kc2⟩ rfl
 refine Dj [1] Ap (rd [0,1,2,3,4,5,6,7,8,10] (.br 9 (.br 11 (.br 12 .fin .fin) .fin) .fin)) rfl kR<|AA Ay 2 [] (fun _=>HN rfl rfl rfl (fun w hK=>Na hkl2 rfl rfl EI)<|AA Ay 7 [100,0] (And.intro oM<|y2<|fun _=>Ag rfl ?_ Ai))
 refine DZ rfl rfl (eC CX rfl rfl) (fun _ h=>h) (fun w f hM=>ih w f hM.vl A hA s hM.res hM.mz hw op2 ln2 co2 nm2 tx2 k2 ka2 kc2 e ea oM oM hwk1 hM.f0 heB hM.f5 oM) (fun _=>Au.stab) (fun _=>⟨Ah.mono,trivial⟩) (fun er w2 f2 he hE=>⟨rfl,er,f2,rfl,(by simp only[Bp,h1,h2,h3,h4,h5,h6,h8,h11,h13,h15,DW,h17,h18,h19,Bool.false_eq_true,if_false,if_true];rw[hkk];simp only;rw[he]),hE⟩) ?_
 rintro⟨⟨t0,ta0,tc0⟩,s1⟩ ⟨hp0,htb0,hw1,hf1⟩
 dsimp only at hp0 htb0 hw1 hf1 ⊢
 refine go Ay 1 [] (fun _=>Ax [1] rfl<|Ag rfl ?_ Ai)
 refine DZ rfl rfl (eC YB rfl rfl) (fun _ h=>h) (fun w f hM=>O6 n ih w f hM.vl A hA s1 hM.res hM.mz hw1 r2 (D4 (some ⟨eb,eo,none⟩) nc 6) (nc-1) e ea t0 ta0 tc0 none none 0 htb0 hM.f0 (B7 _) (Ah.nil _ _ _ _) oM oM hwk2 hM.f4 heB hM.f6 oM) (fun _=>Au.stab) (fun _=>⟨Ah.mono,trivial⟩) (fun er w2 f2 he hE=>⟨rfl,er,f2,rfl,(by simp only[Bp,h1,h2,h3,h4,h5,h6,h8,h11,h13,h15,DW,h17,h18,h19,Bool.false_eq_true,if_false,if_true];rw[hkk];simp only;rw[hp0];simp only;rw[he]),hE⟩) ?_
 rintro⟨⟨t1,ta1,P6⟩,s2⟩ ⟨har,htb1,hw2,hf2⟩
 dsimp only at har htb1 hw2 hf2 ⊢
 refine go Ay 1 [] (fun _=>Ax [1] rfl<|Ag rfl ?_ Ai)
 exact go Ay 2 [0] (y<|fun _=>Ax [1] rfl<|B3<|go Ay 4 [] (fun _=>AY (fun w f hM=>AI rfl (Ac rfl AJ hM.k0 rfl)) (fun w f hM=>⟨((t1,ta1,P6),s2),f,rfl,⟨(by simp only[Bp,h1,h2,h3,h4,h5,h6,h8,h11,h13,h15,DW,h17,h18,h19,Bool.false_eq_true,if_false,if_true];rw[hkk];simp only;rw[hp0];simp only;rw[har]),htb1,hw2,by dsimp only;omega⟩,hM.exm,hM.res,⟨hM.f0,trivial⟩⟩)))
 refine go Ay 7 [] (fun _=>AZ 272 rfl rfl (fun h20=>?_) (fun h20=>?_))
 refine go Ay 2 [] (fun _=>?_)
 have hwk:=qL ((beq_iff_eq.1 h20)▸hwf)
 obtain⟨op2,ln2,co2,tx2,nm2,k2,r2,hkk⟩:=CK hwk dC
 have hwk1:GY op2 k2:=by have h9:=hwk;rw[hkk] at h9;exact h9.1
 have hwk2:r2.wfm 1:=by have h9:=hwk;rw[hkk] at h9;exact h9.2
 have hks:kids.size=k2.size+r2.size+1:=by rw[hkk];rfl
 have hkl2:kids.len=r2.len+1:=by rw[hkk];rfl
 refine B4 (fun w f=>AK w f r2 (D4 na nc 6) (nc-1)) (fun w f hM=>AK.rest (hkk▸hM.f0)) AK.mono<|B4 (fun w f=>Az w f na 0 (.cons op2 ln2 co2 tx2 nm2 k2 r2)) (fun w f hM=>by rw[← hkk];exact AK.at hM.f1) Az.mono<|CB (α:=Nat×Nat×Option Addr×Nat) (fun x=>na=some ⟨x.1,x.2.1,none⟩) (fun x=>[⟨x.1,x.2.1+0*6,F9 op2 ln2 co2 tx2 nm2 x.2.2.1 k2.len x.2.2.2⟩]) (fun x=>[fun w f=>AK w f k2 x.2.2.1 x.2.2.2,fun w f=>Az w f na 1 r2]) (fun w f hM=>let ⟨b,off,ka,kc,h1,h2,h3,h4⟩:=Az.head hM.f0;⟨(b,off,ka,kc),h1,(oE h2),A1.mem ⟨h3,h4,trivial⟩⟩) (fun x=>Af.mem ⟨AK.mono,Az.mono,trivial⟩) ?_
 rintro⟨eb,eo,ka2,kc2⟩ rfl
 refine Dj [1] Ap (rd [0,1,2,3,5,6,7,8,9] (.br 4 (.br 10 (.br 11 (.br 12 .fin .fin) .fin) .fin) .fin)) rfl kR<|AA Ay 2 [] (fun _=>HN rfl rfl rfl (fun w hK=>Na hkl2 rfl rfl EI)<|AA Ay 6 [100,0] (And.intro oM<|y2<|fun _=>Ag rfl ?_ Ai))
 refine B8 rfl rfl (eC B5 rfl rfl) (fun w f hM=>Bx w f hM.vl [101,120,110]) (fun x=>trivial) ?_
 rintro⟨⟩ -
 refine go Ay 1 [] (fun _=>Ax [1] rfl<|Ag rfl ?_ Ai)
 refine DZ rfl rfl (eC CX rfl rfl) (fun _ h=>h) (fun w f hM=>ih w f hM.vl A hA s hM.res hM.mz hw op2 ln2 co2 nm2 tx2 k2 ka2 kc2 e ea oM oM hwk1 hM.f0 heB hM.f5 oM) (fun _=>Au.stab) (fun _=>⟨Ah.mono,trivial⟩) (fun er w2 f2 he hE=>⟨rfl,er,f2,rfl,(by simp only[Bp,h1,h2,h3,h4,h5,h6,h8,h11,h13,h15,DW,h17,h18,h19,h20,Bool.false_eq_true,if_false,if_true];rw[hkk];simp only;rw[he]),hE⟩) ?_
 rintro⟨⟨t0,ta0,tc0⟩,s1⟩ ⟨hp0,htb0,hw1,hf1⟩
 dsimp only at hp0 htb0 hw1 hf1 ⊢
 refine go Ay 1 [] (fun _=>Ax [1] rfl<|Ag rfl ?_ Ai)
 refine DZ rfl rfl (eC YB rfl rfl) (fun _ h=>h) (fun w f hM=>O6 n ih w f hM.vl A hA s1 hM.res hM.mz hw1 r2 (D4 (some ⟨eb,eo,none⟩) nc 6) (nc-1) e ea (c0 bX) none 0 (some t0) ta0 tc0 (Df dC) (Ah.nil _ _ _ _) htb0 hM.f0 oM oM hwk2 hM.f4 heB hM.f6 oM) (fun _=>Au.stab) (fun _=>⟨Ah.mono,trivial⟩) (fun er w2 f2 he hE=>⟨rfl,er,f2,rfl,(by simp only[Bp,h1,h2,h3,h4,h5,h6,h8,h11,h13,h15,DW,h17,h18,h19,h20,Bool.false_eq_true,if_false,if_true];rw[hkk];simp only;rw[hp0];simp only;rw[he]),hE⟩) ?_
 rintro⟨⟨t1,ta1,P6⟩,s2⟩ ⟨har,htb1,hw2,hf2⟩
 dsimp only at har htb1 hw2 hf2 ⊢
 refine go Ay 1 [] (fun _=>Ax [1] rfl<|Ag rfl ?_ Ai)
 exact go Ay 2 [0] (y<|fun _=>Ax [1] rfl<|B3<|go Ay 4 [] (fun _=>AY (fun w f hM=>AI rfl (Ac rfl AJ hM.k0 rfl)) (fun w f hM=>⟨((t1,ta1,P6),s2),f,rfl,⟨(by simp only[Bp,h1,h2,h3,h4,h5,h6,h8,h11,h13,h15,DW,h17,h18,h19,h20,Bool.false_eq_true,if_false,if_true];rw[hkk];simp only;rw[hp0];simp only;rw[har]),htb1,hw2,by dsimp only;omega⟩,hM.exm,hM.res,⟨hM.f0,trivial⟩⟩)))
 refine go Ay 7 [] (fun _=>AZ 286 rfl rfl (fun h21=>?_) (fun h21=>?_))
 refine go Ay 2 [] (fun _=>?_)
 have hwk:=rE ((beq_iff_eq.1 h21)▸hwf)
 obtain⟨op2,ln2,co2,tx2,nm2,k2,r2,hkk⟩:=CK hwk dC
 have hwk1:GY op2 k2:=by have h9:=hwk;rw[hkk] at h9;exact h9
 have hks:kids.size=k2.size+r2.size+1:=by rw[hkk];rfl
 have hkl2:kids.len=r2.len+1:=by rw[hkk];rfl
 refine B4 (fun w f=>Az w f na 0 (.cons op2 ln2 co2 tx2 nm2 k2 r2)) (fun w f hM=>by rw[← hkk];exact AK.at hM.f0) Az.mono<|CB (α:=Nat×Nat×Option Addr×Nat) (fun x=>na=some ⟨x.1,x.2.1,none⟩) (fun x=>[⟨x.1,x.2.1+0*6,F9 op2 ln2 co2 tx2 nm2 x.2.2.1 k2.len x.2.2.2⟩]) (fun x=>[fun w f=>AK w f k2 x.2.2.1 x.2.2.2,fun w f=>Az w f na 1 r2]) (fun w f hM=>let ⟨b,off,ka,kc,h1,h2,h3,h4⟩:=Az.head hM.f0;⟨(b,off,ka,kc),h1,(oE h2),A1.mem ⟨h3,h4,trivial⟩⟩) (fun x=>Af.mem ⟨AK.mono,Az.mono,trivial⟩) ?_
 rintro⟨eb,eo,ka2,kc2⟩ rfl
 refine Dj [0,1] Ap (rd [0,2,3,4,5,6,8,9,10,11] (.br 1 (.br 7 (.br 12 .fin .fin) .fin) .fin)) rfl kR<|AA Ay 10 [100,0,100,1] (And.intro oM<|y2<|And.intro oM<|y2<|fun _=>Ag rfl ?_ Ai)
 refine B8 rfl rfl (eC B5 rfl rfl) (fun w f hM=>Bx w f hM.vl [101,120,110]) (fun x=>trivial) ?_
 rintro⟨⟩ -
 refine go Ay 1 [] (fun _=>Ax [0,1] rfl<|Ag rfl ?_ Ai)
 refine DZ rfl rfl (eC CX rfl rfl) (fun _ h=>h) (fun w f hM=>ih w f hM.vl A hA s hM.res hM.mz hw op2 ln2 co2 nm2 tx2 k2 ka2 kc2 e ea oM oM hwk1 hM.f0 heB hM.f4 oM) (fun _=>Au.stab) (fun _=>⟨Ah.mono,trivial⟩) (fun er w2 f2 he hE=>⟨rfl,er,f2,rfl,(by simp only[Bp,h1,h2,h3,h4,h5,h6,h8,h11,h13,h15,DW,h17,h18,h19,h20,h21,Bool.false_eq_true,if_false,if_true];rw[hkk];simp only;rw[he]),hE⟩) ?_
 rintro⟨⟨t0,ta0,tc0⟩,s1⟩ ⟨hp0,htb0,hw1,hf1⟩
 dsimp only at hp0 htb0 hw1 hf1 ⊢
 refine go Ay 1 [] (fun _=>Ax [0,1] rfl<|Ag rfl ?_ Ai)
 refine DZ rfl rfl (eC Gp rfl rfl) (fun _ h=>h) (fun w f hM=>Dk w f hM.vl A hA s1 hM.res hM.mz hw1 (c0 bX) t0 none 0 ta0 tc0 (Df dC) htb0 (Ah.nil _ _ _ _) hM.f0 ln2 co2) (fun _=>Au.stab) (fun _=>trivial) (fun er w2 f2 he hE=>⟨rfl,er,f2,rfl,(by simp only[Bp,h1,h2,h3,h4,h5,h6,h8,h11,h13,h15,DW,h17,h18,h19,h20,h21,Bool.false_eq_true,if_false,if_true];rw[hkk];simp only;rw[hp0];simp only;rw[he]),hE⟩) ?_
 rintro s2 ⟨hh2,hw2,hf2⟩
 refine go Ay 1 [] (fun _=>Ax [0,1] rfl<|B3<|go Ay 6 [] (fun _=>Fh rfl rfl (fun w f hM=>Al rfl HJ hM.res.blk rfl)<|ZE fun pr=>Ov (α:=CS) (val:=fun _=>tV (AB s2).1 none 0) (q:=fun x=>x=(AB s2).2∧DR x∧x.fresh=s2.fresh+1) (I':=fun x=>Au 64 130 A x) (F':=fun _=>[]) (XX:=fun _ _=>False) rfl rfl (eC K0 rfl rfl) (fun w f hM=>(Fk w f hM.vl A hA s2 hw2 pr hM.res.1 hM.res.2 hM.mz oM).retP) (fun _=>Au.stab) (fun _=>trivial) (fun _ _ _ _ _ h=>h.elim) ?_))
 rintro s3 ⟨hs3,hw3,hw3f⟩
 exact go Ay 6 [0] (y<|fun _=>AY (fun w f hM=>AI rfl (Ac rfl AJ hM.k0 rfl)) (fun w f hM=>⟨(((AB s2).1,none,0),s3),f,rfl,⟨(by simp only[Bp,h1,h2,h3,h4,h5,h6,h8,h11,h13,h15,DW,h17,h18,h19,h20,h21,Bool.false_eq_true,if_false,if_true];rw[hkk];simp only;rw[hp0];simp only;rw[hh2];simp only;rw[hs3]),(B7 _),hw3,by dsimp only;rw[hw3f];omega⟩,hM.exm,hM.res,⟨Ah.nil _ _ _ _,trivial⟩⟩))
 refine go Ay 5 [] (fun _=>?_)
 have hwk:=rF hwf h1 h2 h3 h4 h5 h6 h8 h11 h13 h15 DW h17 h18 h19 h20 h21
 obtain⟨op2,ln2,co2,tx2,nm2,k2,r2,hkk⟩:=CK hwk dC
 have hwk1:GY op2 k2:=by have h9:=hwk;rw[hkk] at h9;exact h9
 have hks:kids.size=k2.size+r2.size+1:=by rw[hkk];rfl
 have hkl2:kids.len=r2.len+1:=by rw[hkk];rfl
 refine B4 (fun w f=>Az w f na 0 (.cons op2 ln2 co2 tx2 nm2 k2 r2)) (fun w f hM=>by rw[← hkk];exact AK.at hM.f0) Az.mono<|CB (α:=Nat×Nat×Option Addr×Nat) (fun x=>na=some ⟨x.1,x.2.1,none⟩) (fun x=>[⟨x.1,x.2.1+0*6,F9 op2 ln2 co2 tx2 nm2 x.2.2.1 k2.len x.2.2.2⟩]) (fun x=>[fun w f=>AK w f k2 x.2.2.1 x.2.2.2,fun w f=>Az w f na 1 r2]) (fun w f hM=>let ⟨b,off,ka,kc,h1,h2,h3,h4⟩:=Az.head hM.f0;⟨(b,off,ka,kc),h1,(oE h2),A1.mem ⟨h3,h4,trivial⟩⟩) (fun x=>Af.mem ⟨AK.mono,Az.mono,trivial⟩) ?_
 rintro⟨eb,eo,ka2,kc2⟩ rfl
 refine go Ay 6 [100,0] (And.intro oM<|y2<|fun _=>DZ rfl rfl (eC CX rfl rfl) (fun _ h=>h) (fun w f hM=>ih w f hM.vl A hA s hM.res hM.mz hw op2 ln2 co2 nm2 tx2 k2 ka2 kc2 e ea oM oM hwk1 hM.f0 heB hM.f4 oM) (fun _=>Au.stab) (fun _=>⟨Ah.mono,trivial⟩) (fun er w2 f2 he hE=>⟨rfl,er,f2,rfl,(by simp only[Bp,h1,h2,h3,h4,h5,h6,h8,h11,h13,h15,DW,h17,h18,h19,h20,h21,Bool.false_eq_true,if_false,if_true];rw[hkk];exact he),hE⟩) ?_)
 rintro⟨⟨t0,ta0,tc0⟩,s1⟩ ⟨hp0,htb0,hw1,hf1⟩
 dsimp only at hp0 htb0 hw1 hf1 ⊢
 exact go Ay 4 [0] (y<|fun _=>AY (fun w f hM=>AI rfl (Ac rfl AJ hM.k0 rfl)) (fun w f hM=>⟨((t0,ta0,tc0),s1),f,rfl,⟨(by simp only[Bp,h1,h2,h3,h4,h5,h6,h8,h11,h13,h15,DW,h17,h18,h19,h20,h21,Bool.false_eq_true,if_false,if_true];rw[hkk];exact hp0),htb0,hw1,by dsimp only;omega⟩,hM.exm,hM.res,⟨hM.f0,trivial⟩⟩))
theorem Jz:∀n,Wg Tryz.prog 19 47 64 130 n
 |0=>fun _ _ _ _ _ _ _ _ _ _ _ _ _ _ _ _ _ _ _ h=>absurd h (Nat.not_lt_zero _)
 |n+1=>fun w f hv A hA s hC hf hw op ln co nm tx kids na nc e ea hm hsz hwf hN heB hE hfb=>Wh n (fun w f hv A hA s hC hf hw op ln co nm tx kids na nc e ea hm hsz hwf hN heB hE hfb=>Wz n (Jz n) w f hv A hA s hC hf hw op ln co nm tx kids na nc e ea hm hsz hwf hN heB hE hfb) w f hv A hA s hC hf hw op ln co nm tx kids na nc e ea hm hsz hwf hN heB hE hfb
end Go.Proofs.YthofplgbhecdcaaGreatDoor
namespace Go.Proofs.YthofplgbhecdcaaGreatDoor
open Go.SW Go.SP Go.RowKit Go.Shelf Go.Lib
structure FE(w:World)(f:Fq):Prop where
 maxLen:∃m:Int,Cs w f 2 0 [.int .i64 m]
 space:∀c:Nat,c<256→c<f 0 ∧ w.cell? ⟨0,c,none⟩=some (.int .u8 (if Lib.isSp (UInt8.ofNat c) then 1 else 0))
theorem FE.mono:G0 (fun w f=>FE w f):=fun _ _ _ _ h hF=>⟨let ⟨m,hm⟩:=h.maxLen;⟨m,hm.mono hF⟩,fun c hc=>⟨Nat.lt_of_lt_of_le (h.space c hc).1 (hF _).1,((hF _).2 c (h.space c hc).1).trans (h.space c hc).2⟩⟩
theorem Hm(w:World)(f:Fq)(hv:Vl w f)(hG:FE w f)(a b:List UInt8)(ha:a.length<4294967281):BF Tryz.prog 46 #[S a,S b] w (BV (α:=Unit) (fun _=>.bool (DG a b)) (fun _=>True) (fun _=>[]) w f):=by
 obtain⟨m,hm⟩:=hG.maxLen
 have h:=Any.strings_Contains Tryz.lays144 ⟨a.toArray⟩ ⟨b.toArray⟩ m w (by rw[KF];exact ha) (hm 0 _ rfl).2
 rw[F8,F8,Jt] at h
 exact Calls.mono h fun _ _ ⟨he,hw⟩=>⟨_,he,(),f,rfl,trivial,(by subst hw;exact CM.refl _ hv),trivial⟩
def Y4(w:World)(f:Fq)(l:List (List UInt8))(a:Option Addr)(c:Nat):Prop:=l.length≤c∧∃b,a=some ⟨b,0,none⟩∧Cs w f b 0 (l.map S)
theorem Y4.mono{l:List (List UInt8)}{a:Option Addr}{c:Nat}:G0 (fun w f=>Y4 w f l a c):=fun _ _ _ _ h hF=>⟨h.1,let ⟨b,h1,h2⟩:=h.2;⟨b,h1,h2.mono hF⟩⟩
theorem RF(w:World)(f:Fq)(hv:Vl w f)(hG:FE w f)(s:List UInt8)(hs:s.length≤1000)(ha:s.all (fun c=>decide (c.toNat<128))=true):BF Tryz.prog 67 #[S s] w (BV (α:=Option Addr×Nat) (fun x=>.slice x.1 (Lib.fields s).length x.2) (fun _=>True) (fun x=>[fun w f=>Y4 w f (Lib.fields s) x.1 x.2]) w f):=by
 have h:=Any.strings_Fields_core Tryz.lays157 kR ⟨s.toArray⟩ w (by rw[KF];omega) (fun j c hj=>by
   rw[F8] at hj
   have:=List.all_eq_true.1 ha c (List.mem_of_getElem? hj)
   simpa using this) (fun c hc=>(hG.space c hc).2)
 rw[F8] at h
 refine Calls.mono h fun _ w' ⟨he,hw⟩=>⟨_,he,(some ⟨w.heap.size,0,none⟩,(Lib.fields s).length),fun b=>if b=w.heap.size then (Lib.fields s).length else f b,rfl,trivial,?_,⟨⟨Nat.le_refl _,w.heap.size,rfl,fun j v hj=>?_⟩,trivial⟩⟩
 · subst hw
   exact CM.done (CM.of_ext (Ki w _) hv) (Nat.le_refl _) (by rw[Hn];omega) _
 · subst hw
   have hlt:j<((Lib.fields s).map S).length:=(List.getElem?_eq_some_iff.1 hj).1
   rw[List.length_map] at hlt
   refine⟨by simp only[if_true];omega,?_⟩
   have hb:=heap_alloc_new w (.cells ((Lib.fields s).map fun l=>Value.string ⟨l.toArray⟩).toArray 9)
   have hj2:((Lib.fields s).map fun l=>Value.string ⟨l.toArray⟩)[j]?=some v:=hj
   simp only[World.cell?]
   rw[show (w.alloc (.cells ((Lib.fields s).map fun l=>Value.string ⟨l.toArray⟩).toArray _)).heap[w.heap.size]?=_ from heap_alloc_new w _]
   simpa using hj2
end Go.Proofs.YthofplgbhecdcaaGreatDoor
namespace Go.Proofs.YthofplgbhecdcaaGreatDoor
open Go.SW Go.SP Go.RowKit
def rZ:Ea:=⟨[(54,0,0),(54,2,3),(54,1,1),(64,2,2),(54,4,5),(56,3,3)],[(23,54,6),(52,56,4)],[],[],[(3,false,1),(9,false,1),(56,true,4),(25,true,2),(23,false,1),(54,true,6),(52,false,1)],[(56,[.int .i64 0,.int .i64 0,.string ⟨#[]⟩,.slice none 0 0]),(54,[.int .i64 0,.int .i64 0,.int .i64 0,.string ⟨#[]⟩,.int .i64 0,.slice none 0 0])],[],[]⟩
theorem Bm:rZ.Ok Tryz.prog:=⟨(And.intro IY (And.intro GH (And.intro GJ (And.intro V4 (And.intro Ga (And.intro F4 trivial)))))),(And.intro EI (And.intro DI trivial)),trivial,trivial,(And.intro CZ (And.intro Hx (And.intro AJ (And.intro CV (And.intro EM (And.intro Bc (And.intro H0 trivial))))))),(And.intro DD (And.intro G5 trivial)),trivial,trivial⟩
set_option maxHeartbeats 1000000 in
theorem Ws(n:Nat)(ih:nZ Tryz.prog FE 17 47 64 130 n)(w:World)(f:Fq)(hv:Vl w f)(A:Ad)(s:CS)(hC:Au 64 130 A s w f)(hw:DR s)(hG:FE w f)(op ln co nm:Int)(tx:List UInt8)(kids:Nd)(na:Option Addr)(nc:Nat)(vv:Value)(vars:List (List UInt8×T1))(hm:kids.size<n+1)(hsz:kids.size≤200000)(htx:tx.length≤100000)(htb0:kids.txb)(hV:N9 vv vars w)(hN:AK w f kids na nc) :
  BQ Tryz.prog 17 #[.pointer (some ⟨A.cb,0,none⟩),.agg #[.int .i64 op,.int .i64 ln,.int .i64 co,S tx,.int .i64 nm,.slice na kids.len nc],vv] w (BV (α:=T1×Option Addr×Nat) (fun x=>tV x.1 x.2.1 x.2.2) (fun x=>Dd s.datas vars op ln co tx kids=.ok x.1∧x.1.bnd) (fun x=>[fun w f=>Ah w f x.1.kids x.2.1 x.2.2]) w f) (PanE 47 (fun _=>False) (fun er=>Dd s.datas vars op ln co tx kids=.error er) w f):=by
 have hkl:=Nd.len_le kids
 refine NT (X:=X0 w f) (H:=[]) (R:=[]) (B:=[]) (Fs:=[fun w f=>AK w f kids na nc,fun w f=>FE w f]) (f:=f) Tryz.func17 rfl rfl rfl (C7 hv ⟨hN,hG,trivial⟩ ⟨AK.mono,FE.mono,trivial⟩)<|go Bm 14 [1] (fun b1=>fun b2=>y<|fun _=>AZ 17 rfl rfl (fun h1=>?_) (fun h1=>?_))
 refine go Bm 2 [] (fun _=>?_)
 rcases hV with ⟨rfl,rfl⟩|⟨vm,rfl,hVm,hVd,hVv⟩
 ·
  have hl:BZ ([]:List (List UInt8×T1)) tx=none:=rfl
  exact go Bm 4 [1] (y<|fun _=>Fh rfl rfl (fun w f hM=>iZ (a:=tx) rfl rfl LN H7 ND)<|go Bm 13 [0,2] (fun b3=>y<|y<|fun _=>MY rfl rfl (eC ES rfl rfl) (fun _ h=>h.elim) (fun w f hM=>(C0 w f hM.vl false ln co).mono (fun _ _ ⟨_,_,_,h,_⟩=>by cases h) fun _ _ h=>h) (fun er w2 f2 he hE=>⟨rfl,er,f2,rfl,(by rw[Dd,if_pos h1,hl,he.2]),hE⟩)))
 ·
  cases hl:BZ vars tx with
  |none =>
   exact go Bm 4 [1] (y<|fun _=>Fh rfl rfl (fun w f hM=>KE (K:=CE) (a:=tx) rfl rfl LN H7 ND (hVm.heap (hM.exm.stp.block _ hVm.lt (fun h=>h))) hVd (by rw[EP (fun t=>tV t none 0),hl];rfl))<|go Bm 13 [0,2] (fun b4=>y<|y<|fun _=>MY rfl rfl (eC ES rfl rfl) (fun _ h=>h.elim) (fun w f hM=>(C0 w f hM.vl false ln co).mono (fun _ _ ⟨_,_,_,h,_⟩=>by cases h) fun _ _ h=>h) (fun er w2 f2 he hE=>⟨rfl,er,f2,rfl,(by rw[Dd,if_pos h1,hl,he.2]),hE⟩)))
  |some tv =>
   obtain⟨q0,rfl⟩:=hVv tx tv hl
   refine go Bm 4 [1] (y<|fun _=>Fh rfl rfl (fun w f hM=>KJ (K:=CE) (a:=tx) (v:=tV (.var q0) none 0) rfl rfl LN H7 ND (hVm.heap (hM.exm.stp.block _ hVm.lt (fun h=>h))) hVd (by rw[EP (fun t=>tV t none 0),hl];rfl))<|go Bm 13 [0,2] (fun b5=>y<|y<|fun _=>DZ (α:=Unit) (val:=fun _=>.tuple #[]) (q:=fun _=>true=true) (I':=fun _ _ _=>True) (F':=fun _=>[]) (pe:=fun er=>true=false∧er=(ln,co,11)) (M:=fun _=>False) (T:=47) rfl rfl (eC ES rfl rfl) (fun _ h=>h.elim) (fun w f hM=>(C0 w f hM.vl true ln co).mono (fun _ _ ⟨x,f2,h1,h2,h3,h4⟩=>⟨x,f2,h1,h2,h3,trivial,h4⟩) fun _ _ h=>h) (fun _ _ _ _ _ _ _ _=>trivial) (fun _=>trivial) (fun er w2 f2 he hE=>⟨rfl,er,f2,rfl,(by cases he.1),hE⟩) ?_))
   rintro⟨⟩ hnd
   exact go Bm 10 [0,1] (y<|y<|fun _=>AY (fun w f hM=>AI rfl (Ac rfl AJ hM.k1 rfl)) (fun w f hM=>⟨(.var q0,none,0),f,rfl,⟨(by rw[Dd,if_pos h1,hl]),B7 _⟩,hM.exm,⟨Ah.nil _ _ _ _,trivial⟩⟩))
 refine go Bm 4 [] (fun _=>?_)
 refine WA (α:=Int×Bool) (fun x=>BZ s.datas tx=if x.2 then some x.1 else none) (fun x=>(E6 0 (.pointer (some ⟨A.cb,0,none⟩)) 2 (vv) 4 (.pointer (some ⟨b1,0,none⟩)) 6 (.pointer (some ⟨b2,0,none⟩)) 9 (.int .i64 x.1) 10 (.bool x.2))) (fun x=>X0 w f) (fun x=>[⟨b2,[.int .i64 0,.int .i64 0,.string ⟨#[]⟩,.slice none 0 0],56,true⟩,⟨b1,[.int .i64 op,.int .i64 ln,.int .i64 co,S tx,.int .i64 nm,.slice na kids.len nc],54,true⟩]) (fun x=>[]) (fun x=>[]) (fun x=>[fun w f=>AK w f kids na nc,fun w f=>FE w f]) ?_ ?_
 cases hdl:BZ s.datas tx with
 |none =>
  exact Ml (fun w=>AQ w A.cb [.pointer (some ⟨A.sb,0,none⟩),.map (some A.km),.map (some A.dm),.map (some A.rm),.int .i64 s.vars] 64∧Ci CE w A.dm (s.datas.map fun p=>(p.1,.int .i64 p.2))) (fun w f _ hE=>⟨(hE.stp.block _ (hC.lt (.inl rfl)) (fun h=>h)).trans hC.blk,hC.datas.heap (hE.stp.block _ hC.datas.lt (fun h=>h))⟩) [0,1] Ap (rd [0,1,2,3,4,5,6,7,8,9,10,11] .fin) rfl kR kR kR (fun _ _ _ _ _ h=>h)<|AA Bm 3 [] (fun _=>HN rfl rfl rfl (fun w hK=>Al rfl Ry hK.2.2.1 rfl)<|AA Bm 2 [1] (y<|fun _=>HN rfl rfl rfl (fun w hK=>KE (K:=CE) (a:=tx) rfl rfl R2 H7 ZM hK.2.2.2 hw.dd (by rw[EP (fun c=>Value.int .i64 c),hdl];rfl))<|AA Bm 5 [] (fun _=>B3<|L2 (0,false) rfl lE (fun w f hM=>⟨f,hM.less (sK (sK sZ)) sR nE (mR [0,1])⟩))))
 |some cnt =>
  exact Ml (fun w=>AQ w A.cb [.pointer (some ⟨A.sb,0,none⟩),.map (some A.km),.map (some A.dm),.map (some A.rm),.int .i64 s.vars] 64∧Ci CE w A.dm (s.datas.map fun p=>(p.1,.int .i64 p.2))) (fun w f _ hE=>⟨(hE.stp.block _ (hC.lt (.inl rfl)) (fun h=>h)).trans hC.blk,hC.datas.heap (hE.stp.block _ hC.datas.lt (fun h=>h))⟩) [0,1] Ap (rd [0,1,2,3,4,5,6,7,8,9,10,11] .fin) rfl kR kR kR (fun _ _ _ _ _ h=>h)<|AA Bm 3 [] (fun _=>HN rfl rfl rfl (fun w hK=>Al rfl Ry hK.2.2.1 rfl)<|AA Bm 2 [1] (y<|fun _=>HN rfl rfl rfl (fun w hK=>KJ (K:=CE) (a:=tx) (v:=.int .i64 cnt) rfl rfl R2 H7 ZM hK.2.2.2 hw.dd (by rw[EP (fun c=>Value.int .i64 c),hdl];rfl))<|AA Bm 5 [] (fun _=>B3<|L2 (cnt,true) rfl lE (fun w f hM=>⟨f,hM.less (sK (sK sZ)) sR nE (mR [0,1])⟩))))
 rintro⟨cnt,dk⟩ hdl
 dsimp only at hdl
 refine go Bm 11 [1] (y<|And.intro (by simp;omega)<|And.intro (by simp;omega)<|fun _=>?_)
 refine WA (α:=Bool) (fun x=>x=Oh s.datas tx kids) (fun x=>(E5 0 (.pointer (some ⟨A.cb,0,none⟩)) 2 (vv) 4 (.pointer (some ⟨b1,0,none⟩)) 6 (.pointer (some ⟨b2,0,none⟩)) 10 (.bool x))) (fun x=>X0 w f) (fun x=>[⟨b2,[.int .i64 0,.int .i64 0,.string ⟨#[]⟩,.slice none 0 0],56,true⟩,⟨b1,[.int .i64 op,.int .i64 ln,.int .i64 co,S tx,.int .i64 nm,.slice na kids.len nc],54,true⟩]) (fun x=>[]) (fun x=>[]) (fun x=>[fun w f=>AK w f kids na nc,fun w f=>FE w f]) ?_ ?_
 refine go Bm 4 [] (fun _=>B8 rfl rfl (eC PK rfl rfl) (fun w f hM=>Hm w f hM.vl hM.f1 Hy ([32]++tx++[32]) dC) (fun x=>trivial) ?_)
 rintro⟨⟩ -
 refine go Bm 3 [] (fun _=>AZ 52 rfl rfl (fun h2=>?_) (fun h2=>?_))
 exact go Bm 9 [1] (y<|fun _=>L2 (((kids.len:Int)==0)) (by rw[Oh,if_pos h2]) lE (fun w f hM=>⟨f,hM.less (sK (sK sZ)) sR nE (mR [0,1])⟩))
 refine go Bm 9 [1] (y<|fun _=>AZ 59 rfl rfl (fun h3=>?_) (fun h3=>?_))
 exact go Bm 9 [1] (y<|fun _=>L2 (((kids.len:Int)==2)) (by rw[Oh,if_neg (by rw[h2];decide),if_pos (show (tx==G2)=true from h3)]) lE (fun w f hM=>⟨f,hM.less (sK (sK sZ)) sR nE (mR [0,1])⟩))
 refine go Bm 4 [] (fun _=>B8 rfl rfl (eC PK rfl rfl) (fun w f hM=>Hm w f hM.vl hM.f1 P7 ([32]++tx++[32]) dC) (fun x=>trivial) ?_)
 rintro⟨⟩ -
 refine go Bm 3 [] (fun _=>AZ 67 rfl rfl (fun h4=>?_) (fun h4=>?_))
 exact go Bm 5 [] (fun _=>L2 (true) (by rw[Oh,if_neg (by rw[h2];decide),if_neg (by rw[show (tx==G2)=false from h3];decide),if_pos h4]) lE (fun w f hM=>⟨f,hM.less (sK (sK sZ)) sR nE (mR [0,1])⟩))
 refine go Bm 4 [] (fun _=>AZ 45 rfl rfl (fun h5=>?_) (fun h5=>?_))
 exact go Bm 9 [1] (y<|fun _=>L2 ((cnt==(kids.len:Int))) (by rw[Oh,if_neg (by rw[h2];decide),if_neg (by rw[show (tx==G2)=false from h3];decide),if_neg (by rw[h4];decide),hdl,if_pos (show dk=true from h5)]) lE (fun w f hM=>⟨f,hM.less (sK (sK sZ)) sR nE (mR [0,1])⟩))
 exact go Bm 9 [] (fun _=>L2 (false) (by rw[Oh,if_neg (by rw[h2];decide),if_neg (by rw[show (tx==G2)=false from h3];decide),if_neg (by rw[h4];decide),hdl,if_neg (by rw[show dk=false from h5];decide)]) lE (fun w f hM=>⟨f,hM.less (sK (sK sZ)) sR nE (mR [0,1])⟩))
 rintro ok hok
 refine go Bm 6 [1] (y<|fun _=>DZ (α:=Unit) (val:=fun _=>.tuple #[]) (q:=fun _=>ok=true) (I':=fun _ _ _=>True) (F':=fun _=>[]) (pe:=fun er=>ok=false∧er=(ln,co,11)) (M:=fun _=>False) (T:=47) rfl rfl (eC ES rfl rfl) (fun _ h=>h.elim) (fun w f hM=>(C0 w f hM.vl ok ln co).mono (fun _ _ ⟨x,f2,h1,h2,h3,h4⟩=>⟨x,f2,h1,h2,h3,trivial,h4⟩) fun _ _ h=>h) (fun _ _ _ _ _ _ _ _=>trivial) (fun _=>trivial) (fun er w2 f2 he hE=>⟨rfl,er,f2,rfl,(by rw[Dd,if_neg (by rw[h1];decide),if_neg (by rw[← hok,he.1];decide),he.2]),hE⟩) ?_)
 rintro⟨⟩ hnd
 refine go Bm 6 [1] (y<|fun _=>B8 rfl rfl (eC B5 rfl rfl) (fun w f hM=>Bx w f hM.vl tx) (fun x=>trivial) ?_)
 rintro⟨⟩ -
 refine go Bm 14 [0,2] (fun b6=>y<|y<|fun _=>QJ 56 4 ?_)
 refine H9 (α:=Nat×Nd×Ty×List Value×Option Addr×Nat) (fun x=>x.2.1.len) (fun x=>x.1+x.2.1.len=kids.len∧x.2.2.1.len=x.1∧Gw s.datas vars kids=(match Gw s.datas vars x.2.1 with|.error x=>.error x|.ok l=>.ok (x.2.2.1.app l))∧x.2.2.1.bnd∧x.2.1.txb∧x.2.1.size≤kids.size) (fun x=>(E7 0 (.pointer (some ⟨A.cb,0,none⟩)) 2 (vv) 6 (.pointer (some ⟨b2,0,none⟩)) 12 (.pointer (some ⟨b6,0,none⟩)) 78 (.slice na kids.len nc) 79 (.int .i64 (kids.len:Int)) 80 (.int .i64 (x.1:Int)))) (fun x=>X0 w f) (fun x=>[⟨b6,[.int .i64 1,.int .i64 0,S tx,.slice x.2.2.2.2.1 x.1 x.2.2.2.2.2],56,true⟩,⟨b2,[.int .i64 0,.int .i64 0,.string ⟨#[]⟩,.slice none 0 0],56,true⟩,⟨b1,[.int .i64 op,.int .i64 ln,.int .i64 co,S tx,.int .i64 nm,.slice na kids.len nc],54,true⟩]) (fun x=>[⟨56,4,x.2.2.2.2.1,x.2.2.2.2.2,x.1,x.2.2.2.1⟩]) (fun x=>[]) (fun x=>[fun w f=>Az w f na x.1 x.2.1,fun w f=>Bl w f x.2.2.1 x.2.2.2.1,fun w f=>FE w f]) (0,kids,.nil,[],none,0) ⟨Nat.zero_add _,rfl,MZ,trivial,htb0,Nat.le_refl _⟩ lE (fun w f hM=>hM.more (B':=[]) (F':=[fun w f=>Az w f na 0 kids,fun w f=>Bl w f .nil []]) nE (A1.mem ⟨AK.at hM.f0,rfl,trivial⟩) (Af.mem ⟨Az.mono,Bl.mono,trivial⟩) |>.less sR sR nE (mR [0,1,3])) ?_
 rintro⟨i,r,dn,xs,ra,rc⟩ ⟨hi,hdl2,hty,hdb,htxb,hrs⟩
 dsimp only at hi hdl2 hty hdb htxb hrs ⊢
 refine go Bm 6 [] (fun _=>AZ 81 rfl rfl (fun h6=>?_) (fun h6=>?_))
 refine go Bm 6 [] (fun _=>?_)
 have hil:i<kids.len:=by have:=of_decide_eq_true h6;omega
 obtain⟨op2,ln2,co2,tx2,nm2,k2,r,rfl⟩:=Nd.cases1 r oM
 have hi2:i+(r.len+1)=kids.len:=hi
 have hrs2:k2.size+r.size+1≤kids.size:=hrs
 obtain⟨htx2,hkx2,hrx2⟩:=htxb
 refine CB (α:=Nat×Nat×Option Addr×Nat) (fun x=>na=some ⟨x.1,x.2.1,none⟩) (fun x=>[⟨x.1,x.2.1+i*6,F9 op2 ln2 co2 tx2 nm2 x.2.2.1 k2.len x.2.2.2⟩]) (fun x=>[fun w f=>AK w f k2 x.2.2.1 x.2.2.2,fun w f=>Az w f na (i+1) r]) (fun w f hM=>let ⟨b,off,ka,kc,h1,h2,h3,h4⟩:=Az.head hM.f0;⟨(b,off,ka,kc),h1,(oE h2),A1.mem ⟨h3,h4,trivial⟩⟩) (fun x=>Af.mem ⟨AK.mono,Az.mono,trivial⟩) ?_
 rintro⟨eb,eo,ka,kc⟩ rfl
 refine go Bm 7 [100,0,0] (And.intro oM<|y2<|fun b7=>y<|fun _=>Dj [0,2,3] Ap (rd [0,2,3,4] (.br 1 (.br 5 (.br 6 (.br 7 (.rd 8 (.br 9 .fin .fin)) .fin) .fin) .fin) (.br 5 (.br 1 (.br 6 (.br 7 (.rd 8 (.br 9 .fin .fin)) .fin) .fin) (.br 6 (.br 1 (.br 7 (.rd 8 (.br 9 .fin .fin)) .fin) .fin) .fin)) .fin))) rfl kR<|AA Bm 4 [0] (y<|fun _=>Ag rfl ?_ ?_))
 refine go Bm 2 [1] (y<|fun _=>Ax [0,2,3] rfl<|Ag rfl ?_ Ai)
 refine DZ (I':=fun _ _ _=>True) (M:=fun _=>False) (α:=T1×Option Addr×Nat) (val:=fun x=>tV x.1 x.2.1 x.2.2) (q:=fun x=>Dd s.datas vars op2 ln2 co2 tx2 k2=.ok x.1∧x.1.bnd) (F':=fun x=>[fun w f=>Ah w f x.1.kids x.2.1 x.2.2]) (pe:=fun er=>Dd s.datas vars op2 ln2 co2 tx2 k2=.error er) (T:=47) rfl rfl (eC Nz rfl rfl) (fun _ h=>h.elim) (fun w f hM=>(ih w f hM.vl A s (Au.stab _ _ _ _ hC (hM.exm.fle hv (fun _ h=>h.elim)) (fun b hb=>hM.exm.stp.block b (hC.lt hb) (fun h=>h))) hw hM.f4 op2 ln2 co2 nm2 tx2 k2 ka kc vv vars oM oM htx2 hkx2 (N9.keep hV hM.exm) hM.f0).mono (fun _ _ ⟨x,f2,h1,h2,h3,h4⟩=>⟨x,f2,h1,h2,h3,trivial,h4⟩) fun _ _ h=>h) (fun _ _ _ _ _ _ _ _=>trivial) (fun _=>⟨Ah.mono,trivial⟩) (fun er w2 f2 he hE=>⟨rfl,er,f2,rfl,(by rw[Dd,if_neg (by rw[h1];decide),if_pos (hok▸hnd),hty,J8 he]),hE⟩) ?_
 rintro⟨q5,qa,qc⟩ ⟨hp5,hqb⟩
 dsimp only at hp5 hqb ⊢
 refine go Bm 1 [] (fun _=>Ax [0,2,3] rfl<|Ag rfl ?_ Ai)
 refine go Bm 2 [] (fun b8=>fun _=>Ax [1,3,4] rfl<|Ag rfl ?_ Ai)
 refine DH 0 0 rfl rfl Dq rfl rfl rfl rfl rfl rfl rfl rfl (fun _ _=>rfl) oM oM fun ra2 rc2=>go Bm 1 [] (fun _=>Ax [1,3,4] rfl<|AA Bm 1 [] (fun _=>Ag rfl ?_ Ai))
 exact go Bm 2 [2] (y<|fun _=>Ax [1,3,4] rfl<|B3<|go Bm 6 [] (And.intro ⟨oM,oM⟩<|fun _=>Eb ((i+1,r,dn.snoc q5,xs++tC q5 qa qc,ra2,rc2)) (show r.len<(Nd.cons op2 ln2 co2 tx2 nm2 k2 r).len from Nat.lt_succ_self _) ⟨show i+1+r.len=_ by omega,show (dn.snoc _).len=i+1 by rw[Ty.len_snoc,hdl2],hty.trans (GR hp5),show (dn.snoc _).bnd from Ty.bnd_snoc hdb hqb,hrx2,show r.size≤_ by omega⟩ lE (fun w f hM=>⟨_,(hM.more (B':=[]) (F':=[fun w f=>Bl w f (dn.snoc q5) (xs++tC q5 qa qc)]) nE (A1.mem ⟨Bl.snoc hM.f0 hM.f4,trivial⟩) (Af.mem ⟨Bl.mono,trivial⟩)).less (.cons _ (.cons _ sR)) sR nE (mR [3,0,6])⟩)))
 refine Ag rfl ?_ Ai
 refine DZ (I':=fun _ _ _=>True) (M:=fun _=>False) (α:=T1×Option Addr×Nat) (val:=fun x=>tV x.1 x.2.1 x.2.2) (q:=fun x=>Dd s.datas vars op2 ln2 co2 tx2 k2=.ok x.1∧x.1.bnd) (F':=fun x=>[fun w f=>Ah w f x.1.kids x.2.1 x.2.2]) (pe:=fun er=>Dd s.datas vars op2 ln2 co2 tx2 k2=.error er) (T:=47) rfl rfl (eC Nz rfl rfl) (fun _ h=>h.elim) (fun w f hM=>(ih w f hM.vl A s (Au.stab _ _ _ _ hC (hM.exm.fle hv (fun _ h=>h.elim)) (fun b hb=>hM.exm.stp.block b (hC.lt hb) (fun h=>h))) hw hM.f4 op2 ln2 co2 nm2 tx2 k2 ka kc vv vars oM oM htx2 hkx2 (N9.keep hV hM.exm) hM.f0).mono (fun _ _ ⟨x,f2,h1,h2,h3,h4⟩=>⟨x,f2,h1,h2,h3,trivial,h4⟩) fun _ _ h=>h) (fun _ _ _ _ _ _ _ _=>trivial) (fun _=>⟨Ah.mono,trivial⟩) (fun er w2 f2 he hE=>⟨rfl,er,f2,rfl,(by rw[Dd,if_neg (by rw[h1];decide),if_pos (hok▸hnd),hty,J8 he]),hE⟩) ?_
 rintro⟨q5,qa,qc⟩ ⟨hp5,hqb⟩
 dsimp only at hp5 hqb ⊢
 refine go Bm 1 [] (fun _=>Ax [0,2,3] rfl<|Ag rfl ?_ ?_)
 refine go Bm 2 [1] (y<|fun _=>Ax [0,2,3] rfl<|Ag rfl ?_ Ai)
 refine go Bm 2 [] (fun b9=>fun _=>Ax [1,3,4] rfl<|Ag rfl ?_ Ai)
 refine DH 0 0 rfl rfl Dq rfl rfl rfl rfl rfl rfl rfl rfl (fun _ _=>rfl) oM oM fun ra2 rc2=>go Bm 1 [] (fun _=>Ax [1,3,4] rfl<|AA Bm 1 [] (fun _=>Ag rfl ?_ Ai))
 exact go Bm 2 [2] (y<|fun _=>Ax [1,3,4] rfl<|B3<|go Bm 6 [] (And.intro ⟨oM,oM⟩<|fun _=>Eb ((i+1,r,dn.snoc q5,xs++tC q5 qa qc,ra2,rc2)) (show r.len<(Nd.cons op2 ln2 co2 tx2 nm2 k2 r).len from Nat.lt_succ_self _) ⟨show i+1+r.len=_ by omega,show (dn.snoc _).len=i+1 by rw[Ty.len_snoc,hdl2],hty.trans (GR hp5),show (dn.snoc _).bnd from Ty.bnd_snoc hdb hqb,hrx2,show r.size≤_ by omega⟩ lE (fun w f hM=>⟨_,(hM.more (B':=[]) (F':=[fun w f=>Bl w f (dn.snoc q5) (xs++tC q5 qa qc)]) nE (A1.mem ⟨Bl.snoc hM.f0 hM.f4,trivial⟩) (Af.mem ⟨Bl.mono,trivial⟩)).less (.cons _ (.cons _ sR)) sR nE (mR [3,0,6])⟩)))
 refine Ag rfl ?_ Ai
 refine go Bm 2 [] (fun b10=>fun _=>Ax [1,3,4] rfl<|Ag rfl ?_ Ai)
 refine go Bm 2 [2] (y<|fun _=>Ax [1,3,4] rfl<|Ag rfl ?_ Ai)
 refine DH 0 0 rfl rfl Dq rfl rfl rfl rfl rfl rfl rfl rfl (fun _ _=>rfl) oM oM fun ra2 rc2=>go Bm 1 [] (fun _=>Ax [1,3,4] rfl<|AA Bm 1 [] (fun _=>Ag rfl ?_ Ai))
 exact go Bm 2 [2] (y<|fun _=>Ax [1,3,4] rfl<|B3<|go Bm 6 [] (And.intro ⟨oM,oM⟩<|fun _=>Eb ((i+1,r,dn.snoc q5,xs++tC q5 qa qc,ra2,rc2)) (show r.len<(Nd.cons op2 ln2 co2 tx2 nm2 k2 r).len from Nat.lt_succ_self _) ⟨show i+1+r.len=_ by omega,show (dn.snoc _).len=i+1 by rw[Ty.len_snoc,hdl2],hty.trans (GR hp5),show (dn.snoc _).bnd from Ty.bnd_snoc hdb hqb,hrx2,show r.size≤_ by omega⟩ lE (fun w f hM=>⟨_,(hM.more (B':=[]) (F':=[fun w f=>Bl w f (dn.snoc q5) (xs++tC q5 qa qc)]) nE (A1.mem ⟨Bl.snoc hM.f0 hM.f4,trivial⟩) (Af.mem ⟨Bl.mono,trivial⟩)).less (.cons _ (.cons _ sR)) sR nE (mR [3,0,6])⟩)))
 refine go Bm 3 [] (fun _=>Hc<|go Bm 3 [] (fun _=>?_))
 obtain rfl:r=.nil:=Nd.len0 (by have:=of_decide_eq_false h6;omega)
 have hty2:Gw s.datas vars kids=.ok dn:=by rw[hty];show (Except.ok (dn.app .nil):RI Ty)=_;rw[Ty.app_nil]
 have hdk:dn.len≤200000:=by have:i+0=kids.len:=hi;omega
 subst hdl2
 exact QH (fun w f=>Ah w f dn ra rc) Ah.mono (fun w f hM=>HL hM hM.f1)<|go Bm 6 [0,1] (y<|y<|fun _=>AY (fun w f hM=>AI rfl (Ac rfl AJ hM.k1 rfl)) (fun w f hM=>⟨(.con tx dn,ra,rc),f,rfl,⟨(by rw[Dd,if_neg (by rw[h1];decide),if_pos (hok▸hnd),hty2]),D0 oM hdk hdb⟩,hM.exm,⟨hM.f0,trivial⟩⟩))
theorem KQ:∀n,nZ Tryz.prog FE 17 47 64 130 n
 |0=>fun _ _ _ _ _ _ _ _ _ _ _ _ _ _ _ _ _ _ h=>absurd h (Nat.not_lt_zero _)
 |n+1=>fun w f hv A s hC hw hG op ln co nm tx kids na nc vv vars hm hsz htx htb hV hN=>Ws n (KQ n) w f hv A s hC hw hG op ln co nm tx kids na nc vv vars hm hsz htx htb hV hN
def rN:Ea:=⟨[(64,2,2),(54,2,3),(54,1,1),(54,4,5),(54,0,0),(64,4,4),(56,3,3),(64,1,1),(92,0,0)],[(23,54,6),(52,56,4),(90,3,1)],[],[],[(9,false,1),(25,true,2),(56,true,4),(23,false,1),(54,true,6),(3,false,1),(52,false,1),(92,true,6)],[(56,[.int .i64 0,.int .i64 0,.string ⟨#[]⟩,.slice none 0 0]),(54,[.int .i64 0,.int .i64 0,.int .i64 0,.string ⟨#[]⟩,.int .i64 0,.slice none 0 0]),(3,[.int .i64 0]),(92,[.slice none 0 0,.int .i64 0,.int .i64 0,.string ⟨#[]⟩,.slice none 0 0,.slice none 0 0])],[(92,[(0,1),(1,4),(5,1)])],[]⟩
theorem A6:rN.Ok Tryz.prog:=⟨(And.intro V4 (And.intro GH (And.intro GJ (And.intro Ga (And.intro IY (And.intro V9 (And.intro F4 (And.intro PH (And.intro Q5 trivial))))))))),(And.intro EI (And.intro DI (And.intro KZ trivial))),trivial,trivial,(And.intro Hx (And.intro CV (And.intro AJ (And.intro EM (And.intro Bc (And.intro CZ (And.intro H0 (And.intro XH trivial)))))))),(And.intro DD (And.intro G5 (And.intro W1 (And.intro XV trivial)))),(And.intro dE trivial),trivial⟩
set_option maxHeartbeats 2000000 in
theorem Wp(w:World)(f:Fq)(hv:Vl w f)(A:Ad)(hA:A.ok)(s:CS)(hC:Au 64 130 A s w f)(hf:∀b,BB A b→f b=0)(hw:DR s)(hG:FE w f)(op ln co nm:Int)(tx:List UInt8)(kids:Nd)(na:Option Addr)(nc:Nat)(hsz:kids.size≤200000)(htx:tx.length≤100000)(htb0:kids.txb)(hN:AK w f kids na nc)(hvb : -800000000000≤s.vars-kids.len)(hvb2:s.vars≤0) :
  BQ Tryz.prog 15 #[.pointer (some ⟨A.cb,0,none⟩),.agg #[.int .i64 op,.int .i64 ln,.int .i64 co,S tx,.int .i64 nm,.slice na kids.len nc]] w (Fl (α:=CS) (fun _=>.tuple #[]) (fun x=>G8 s ln co tx kids=.ok x∧DR x∧x.fresh=s.fresh∧s.vars-kids.len≤x.vars∧x.vars≤s.vars) (BB A) (fun x=>Au 64 130 A x) (fun _=>[]) w f) (PanE 47 (BB A) (fun er=>G8 s ln co tx kids=.error er) w f):=by
 have hkl:=Nd.len_le kids
 refine NT (X:=XC 64 130 A s w f) (H:=[]) (R:=[]) (B:=[]) (Fs:=[fun w f=>AK w f kids na nc,fun w f=>FE w f]) (f:=f) Tryz.func15 rfl rfl rfl (Lz hv hC hf ⟨hN,hG,trivial⟩ ⟨AK.mono,FE.mono,trivial⟩)<|go A6 6 [] (fun b1=>fun _=>?_)
 cases hdl:BZ s.datas tx with
 |none =>
  refine Ml (fun w=>AQ w A.cb [.pointer (some ⟨A.sb,0,none⟩),.map (some A.km),.map (some A.dm),.map (some A.rm),.int .i64 s.vars] 64∧Ci CE w A.dm (s.datas.map fun p=>(p.1,.int .i64 p.2))) (fun w f h _=>⟨h.blk,h.datas⟩) [0] Ap (rd [0,1,2,3,4,5,6,7,8,9,10,11] .fin) rfl kR kR kR (fun _ _ _ _ _ h=>h)<|AA A6 3 [] (fun _=>HN rfl rfl rfl (fun w hK=>Al rfl Ry hK.2.2.1 rfl)<|AA A6 2 [0] (y<|fun _=>HN rfl rfl rfl (fun w hK=>KE (K:=CE) (a:=tx) rfl rfl R2 H7 ZM hK.2.2.2 hw.dd (by rw[EP (fun c=>Value.int .i64 c),hdl];rfl))<|AA A6 5 [] (fun _=>B3<|go A6 2 [] (fun _=>Dj [0] Ap (rd [0,1,2,3,4,5,6,10,11] (.br 7 (.rd 8 (.rd 9 (.br 12 .fin .fin))) .fin)) rfl kR<|AA A6 9 [0,0] (y<|And.intro (by simp;omega)<|And.intro (by simp;omega)<|y<|fun _=>?_)))))
  refine Ag rfl ?_ Ai
  refine B8 rfl rfl (eC PK rfl rfl) (fun w f hM=>Hm w f hM.vl hM.f1 Hy ([32]++tx++[32]) dC) (fun x=>trivial) ?_
  rintro⟨⟩ -
  refine go A6 1 [] (fun _=>Ax [0] rfl<|AA A6 2 [] (fun _=>Ag rfl ?_ Ai))
  refine DZ (α:=Unit) (val:=fun _=>.tuple #[]) (q:=fun _=>(!DG Hy ([32]++tx++[32]))=true) (I':=fun _=>Au 64 130 A s) (F':=fun _=>[]) (pe:=fun er=>(!DG Hy ([32]++tx++[32]))=false∧er=(ln,co,11)) (M:=fun _=>False) (T:=47) rfl rfl (eC ES rfl rfl) (fun _ h=>h.elim) (fun w f hM=>(C0 w f hM.vl (!DG Hy ([32]++tx++[32])) ln co).mono (fun _ _ ⟨x,f2,h1,h2,h3,h4⟩=>⟨x,f2,h1,h2,h3.mono (fun _ h=>h.elim),(hM.call0 h3).res,h4⟩) fun _ _ h=>h) (fun _=>Au.stab) (fun _=>trivial) (fun er w2 f2 he hE=>⟨rfl,er,f2,rfl,(by have h9:DG Hy ([32]++tx++[32])=true:=Gn he.1;rw[G8,if_pos (by rw[hdl,h9];rfl),he.2]),hE⟩) ?_
  rintro⟨⟩ hnd
  have hnd0:¬((BZ s.datas tx).isSome||DG Hy ([32]++tx++[32]))=true:=by rw[hdl,show DG Hy ([32]++tx++[32])=false from FL hnd];decide
  refine go A6 1 [] (fun _=>Ax [0] rfl<|B3<|go A6 3 [] (fun _=>YY (K:=CE) rfl rfl fun vm hvm=>go A6 7 [0] (y<|fun _=>B8 rfl rfl (eC B5 rfl rfl) (fun w f hM=>Bx w f hM.vl tx) (fun x=>trivial) ?_)))
  rintro⟨⟩ -
  refine go A6 19 [0,1] (fun b2=>y<|y<|fun _=>QJ 3 1<|QJ 56 4 ?_)
  refine H9 (α:=Nat×Nd×Int×List (List UInt8×T1)×Ty×List Value×Option Addr×Nat×List Int×Option Addr×Nat) (fun x=>x.2.1.len) (fun x=>x.1+x.2.1.len=kids.len∧EE ln co kids s.vars [] .nil []=EE ln co x.2.1 x.2.2.1 x.2.2.2.1 x.2.2.2.2.1 x.2.2.2.2.2.2.2.2.1∧x.2.2.2.2.1.len=x.2.2.2.2.2.2.2.2.1.length∧x.2.2.2.2.2.2.2.2.1.length≤x.1∧x.2.2.2.2.1.bnd∧KP (mJ x.2.2.2.1)∧(∀n t,BZ x.2.2.2.1 n=some t→∃q,t=.var q)∧s.vars-x.1≤x.2.2.1∧x.2.2.1≤s.vars) (fun x=>(E8 0 (.pointer (some ⟨A.cb,0,none⟩)) 3 (.pointer (some ⟨b1,0,none⟩)) 6 (.map (some vm)) 7 (.pointer (some ⟨b2,0,none⟩)) 8 (.slice x.2.2.2.2.2.2.2.2.2.1 x.2.2.2.2.2.2.2.2.1.length x.2.2.2.2.2.2.2.2.2.2) 48 (.slice na kids.len nc) 49 (.int .i64 (kids.len:Int)) 50 (.int .i64 (x.1:Int)))) (fun x=>⟨BB A,fun b=>BB A b∨b=vm,EB 64 130 A ({s with vars:=x.2.2.1}:CS) vm x.2.2.2.1,w,f⟩) (fun x=>[⟨b2,[.int .i64 1,.int .i64 0,S tx,.slice x.2.2.2.2.2.2.1 x.2.2.2.2.2.2.2.2.1.length x.2.2.2.2.2.2.2.1],56,true⟩,⟨b1,[.int .i64 op,.int .i64 ln,.int .i64 co,S tx,.int .i64 nm,.slice na kids.len nc],54,true⟩]) (fun x=>[⟨56,4,x.2.2.2.2.2.2.1,x.2.2.2.2.2.2.2.1,x.2.2.2.2.2.2.2.2.1.length,x.2.2.2.2.2.1⟩,⟨3,1,x.2.2.2.2.2.2.2.2.2.1,x.2.2.2.2.2.2.2.2.2.2,x.2.2.2.2.2.2.2.2.1.length,x.2.2.2.2.2.2.2.2.1.map fun n=>.int .i64 n⟩]) (fun x=>[]) (fun x=>[fun w f=>Az w f na x.1 x.2.1,fun w f=>Bl w f x.2.2.2.2.1 x.2.2.2.2.2.1,fun w f=>FE w f,fun w f=>AK w f kids na nc]) (0,kids,s.vars,[],.nil,[],none,0,[],none,0) ⟨Nat.zero_add _,rfl,rfl,Nat.le_refl _,trivial,trivial,fun _ _ h=>(by cases h),by dsimp only;omega,Int.le_refl _⟩ lE (fun w f hM=>hM.more (B':=[]) (F':=[fun w f=>Az w f na 0 kids,fun w f=>Bl w f .nil []]) nE (A1.mem ⟨AK.at hM.f0,rfl,trivial⟩) (Af.mem ⟨Az.mono,Bl.mono,trivial⟩) |>.less sR sR nE (mR [0,1,3,2])) ?_
  rintro⟨i,r,v,m,self,xs,ra,rc,nums,na2,nc2⟩ ⟨hi,hdv,hsl,hnl,hsb,hdm,hmv,hv1,hv2⟩
  dsimp only at hi hdv hsl hnl hsb hdm hmv hv1 hv2 ⊢
  refine go A6 6 [] (fun _=>AZ 51 rfl rfl (fun h1=>?_) (fun h1=>?_))
  refine go A6 6 [] (fun _=>?_)
  have hil:i<kids.len:=by have:=of_decide_eq_true h1;omega
  obtain⟨op2,ln2,co2,tx2,nm2,k2,r,rfl⟩:=Nd.cases1 r oM
  have hi2:i+(r.len+1)=kids.len:=hi
  refine CB (α:=Nat×Nat×Option Addr×Nat) (fun x=>na=some ⟨x.1,x.2.1,none⟩) (fun x=>[⟨x.1,x.2.1+i*6,F9 op2 ln2 co2 tx2 nm2 x.2.2.1 k2.len x.2.2.2⟩]) (fun x=>[fun w f=>AK w f k2 x.2.2.1 x.2.2.2,fun w f=>Az w f na (i+1) r]) (fun w f hM=>let ⟨b,off,ka,kc,h1,h2,h3,h4⟩:=Az.head hM.f0;⟨(b,off,ka,kc),h1,(oE h2),A1.mem ⟨h3,h4,trivial⟩⟩) (fun x=>Af.mem ⟨AK.mono,Az.mono,trivial⟩) ?_
  rintro⟨eb,eo,ka,kc⟩ rfl
  refine go A6 15 [100,0,0,0] (And.intro oM<|y2<|fun b3=>y<|y<|fun _=>AZ 56 rfl rfl (fun h2=>?_) (fun h2=>?_))
  exact go A6 9 [] (And.intro ⟨oM,oM⟩<|fun _=>Eb ((i+1,r,v,m,self,xs,ra,rc,nums,na2,nc2)) (show r.len<(Nd.cons op2 ln2 co2 tx2 nm2 k2 r).len from Nat.lt_succ_self _) ⟨show i+1+r.len=_ by omega,hdv.trans (Ro (by simpa using h2)),hsl,show nums.length≤i+1 by omega,hsb,hdm,hmv,show s.vars-((i+1:Nat):Int)≤v by omega,hv2⟩ lE (fun w f hM=>⟨_,hM.less (sD (sK (sK sZ))) sR nE (mR [1,3,4,5])⟩))
  refine go A6 4 [] (fun _=>?_)
  have hop2:(op2==31)=true:=by have h9:(op2 != 31)=false:=h2;simpa using h9
  cases hvl:BZ m tx2 with
  |none =>
   refine go A6 4 [0] (y<|fun _=>Fh rfl rfl (fun w f hM=>KE (K:=CE) (a:=tx2) rfl rfl LN H7 ND hM.res.2 hdm (by rw[EP (fun t=>tV t none 0),hvl];rfl))<|go A6 14 [0,3] (fun b4=>y<|y<|fun _=>DZ (α:=Unit) (val:=fun _=>.tuple #[]) (q:=fun _=>true=true) (I':=fun _=>EB 64 130 A ({s with vars:=v}:CS) vm m) (F':=fun _=>[]) (pe:=fun er=>true=false∧er=(ln,co,11)) (M:=fun _=>False) (T:=47) rfl rfl (eC ES rfl rfl) (fun _ h=>h.elim) (fun w f hM=>(C0 w f hM.vl true ln co).mono (fun _ _ ⟨x,f2,h1,h2,h3,h4⟩=>⟨x,f2,h1,h2,h3.mono (fun _ h=>h.elim),(hM.call0 h3).res,h4⟩) fun _ _ h=>h) (fun _=>EB.stab) (fun _=>trivial) (fun er w2 f2 he hE=>⟨rfl,er,f2,rfl,(by cases he.1),hE⟩) ?_))
   rintro⟨⟩ hnd
   refine go A6 7 [] (fun _=>Fh (v:=.int .i64 v) rfl rfl (fun w f hM=>Al rfl CZ hM.res.1.blk rfl)<|go A6 3 [] (And.intro ⟨oM,oM⟩<|fun _=>qE hA hvm rfl rfl rfl CZ<|go A6 3 [] (fun _=>Ml (fun w=>AQ w A.cb [.pointer (some ⟨A.sb,0,none⟩),.map (some A.km),.map (some A.dm),.map (some A.rm),.int .i64 (v-1)] 64) (fun w f h _=>h.1.blk) [0,1,2,3] Ap (rd [0,1,2,3,4,5,6] (.br 7 (.br 8 .fin .fin) .fin)) rfl kR kR kR (fun _ _ _ _ _ h=>h)<|AA A6 6 [1] (y<|fun _=>HN rfl rfl rfl (fun w hK=>(Al rfl CZ hK.2.2 rfl:AO _ _ _ _ _ (.int .i64 (v-1)) _))<|Ag rfl ?_ Ai))))
   refine B8 rfl rfl (eC Hp rfl rfl) (fun w f hM=>Eg w f hM.vl (v-1)) (fun x=>trivial) ?_
   rintro⟨⟩ -
   refine go A6 1 [] (fun _=>Bh [0,1,2,3] (fun w f h _=>h.1.blk) rfl (fun _ h=>h)<|Ag rfl ?_ Ai)
   refine rM (q:=v-1) hvm rfl rfl rfl rfl LN H7 hdm hvl<|go A6 1 [] (fun _=>Bh [0,1,2,3] (fun w f h _=>h.1.blk) rfl (fun _ h=>h)<|B3<|go A6 2 [] (fun _=>Ml (fun w=>AQ w A.cb [.pointer (some ⟨A.sb,0,none⟩),.map (some A.km),.map (some A.dm),.map (some A.rm),.int .i64 (v-1)] 64) (fun w f h _=>h.1.blk) [0,1,3] Ap (rd [0,2,3,4,5] (.br 1 (.br 6 (.br 7 (.br 8 (.rd 9 (.br 10 .fin .fin)) .fin) .fin) .fin) (.br 6 (.br 1 (.br 7 (.br 8 (.rd 9 (.br 10 .fin .fin)) .fin) .fin) (.br 7 (.br 1 (.br 8 (.rd 9 (.br 10 .fin .fin)) .fin) .fin) .fin)) .fin))) rfl kR kR kR (fun _ _ _ _ _ h=>h)<|AA A6 4 [] (fun _=>HN rfl rfl rfl (fun w hK=>(Al rfl CZ hK.2.2 rfl:AO _ _ _ _ _ (.int .i64 (v-1)) _))<|Ag rfl ?_ ?_)))
   refine go A6 2 [2] (y<|fun _=>Bh [0,1,3] (fun w f h _=>h.1.blk) rfl (fun _ h=>h)<|Ag rfl ?_ Ai)
   refine B8 rfl rfl (eC Hp rfl rfl) (fun w f hM=>Eg w f hM.vl (v-1)) (fun x=>trivial) ?_
   rintro⟨⟩ -
   refine go A6 1 [] (fun _=>Bh [0,1,3] (fun w f h _=>h.1.blk) rfl (fun _ h=>h)<|Ag rfl ?_ Ai)
   refine go A6 2 [] (fun b5=>fun _=>Bh [1,2,4] (fun w f h _=>h.1.blk) rfl (fun _ h=>h)<|Ag rfl ?_ Ai)
   refine DH 0 0 rfl rfl Dq rfl rfl rfl rfl rfl rfl rfl rfl (fun _ _=>rfl) oM oM fun ra2 rc2=>go A6 1 [] (fun _=>Bh [1,2,4] (fun w f h _=>h.1.blk) rfl (fun _ h=>h)<|AA A6 1 [] (fun _=>Ag rfl ?_ Ai))
   refine go A6 2 [3] (y<|fun _=>Bh [1,2,4] (fun w f h _=>h.1.blk) rfl (fun _ h=>h)<|B3<|go A6 6 [] (fun _=>Fh (v:=.int .i64 (v-1)) rfl rfl (fun w f hM=>Al rfl CZ hM.res.1.blk rfl)<|go A6 1 [] (fun b6=>fun _=>DH 1 0 rfl rfl Me rfl rfl rfl rfl rfl rfl rfl rfl (fun _ _=>rfl) oM oM fun na3 nc3=>go A6 8 [] (And.intro ⟨oM,oM⟩<|fun _=>?_))))
   exact Eb ((i+1,r,v-1,(tx2,.var (v-1))::m,self.snoc (.var (v-1)),xs++tC (.var (v-1)) none 0,ra2,rc2,(nums++[v-1]),na3,nc3)) (show r.len<(Nd.cons op2 ln2 co2 tx2 nm2 k2 r).len from Nat.lt_succ_self _) ⟨show i+1+r.len=_ by omega,hdv.trans (K2 hop2 hvl),show (self.snoc _).len=_ by rw[Ty.len_snoc,hsl,List.length_append];rfl,show (nums++[v-1]).length≤i+1 by rw[List.length_append];simp;omega,Ty.bnd_snoc hsb (B7 _),JK (fun t=>tV t none 0) hdm hvl,fun n t h=>by rw[Ja] at h;split at h;(cases h;exact⟨_,rfl⟩);exact hmv n t h,show s.vars-((i+1:Nat):Int)≤v-1 by omega,show v-1≤s.vars by omega⟩ (sQ rfl rfl rfl rfl (Eq.trans (b:=some (Value.slice na3 (nums.length+1) nc3)) rfl (by dsimp only;rw[List.length_append];rfl)) rfl rfl rfl) (fun w f hM=>⟨_,by have hM9:=(hM.more (B':=[]) (F':=[fun w f=>Bl w f (self.snoc (.var (v-1))) (xs++tC (.var (v-1)) none 0)]) nE (A1.mem ⟨Bl.snoc (Ah.nil _ _ _ _) hM.f3,trivial⟩) (Af.mem ⟨Bl.mono,trivial⟩)).less (sD (sD (sD (sD (sK (sK sZ)))))) sR (B':=[]) nE (F':=[fun w f=>Az w f (some ⟨eb,eo,none⟩) (i+1) r,fun w f=>Bl w f (self.snoc (.var (v-1))) (xs++tC (.var (v-1)) none 0),fun w f=>FE w f,fun w f=>AK w f kids (some ⟨eb,eo,none⟩) nc]) (mR [2,0,5,6]);dsimp only;rw[show (nums++[v-1]).length=nums.length+1 by rw[List.length_append];rfl,List.map_append];exact hM9⟩)
   refine Ag rfl ?_ Ai
   refine B8 rfl rfl (eC Hp rfl rfl) (fun w f hM=>Eg w f hM.vl (v-1)) (fun x=>trivial) ?_
   rintro⟨⟩ -
   refine go A6 1 [] (fun _=>Bh [0,1,3] (fun w f h _=>h.1.blk) rfl (fun _ h=>h)<|Ag rfl ?_ ?_)
   refine go A6 2 [2] (y<|fun _=>Bh [0,1,3] (fun w f h _=>h.1.blk) rfl (fun _ h=>h)<|Ag rfl ?_ Ai)
   refine go A6 2 [] (fun b7=>fun _=>Bh [1,2,4] (fun w f h _=>h.1.blk) rfl (fun _ h=>h)<|Ag rfl ?_ Ai)
   refine DH 0 0 rfl rfl Dq rfl rfl rfl rfl rfl rfl rfl rfl (fun _ _=>rfl) oM oM fun ra2 rc2=>go A6 1 [] (fun _=>Bh [1,2,4] (fun w f h _=>h.1.blk) rfl (fun _ h=>h)<|AA A6 1 [] (fun _=>Ag rfl ?_ Ai))
   refine go A6 2 [3] (y<|fun _=>Bh [1,2,4] (fun w f h _=>h.1.blk) rfl (fun _ h=>h)<|B3<|go A6 6 [] (fun _=>Fh (v:=.int .i64 (v-1)) rfl rfl (fun w f hM=>Al rfl CZ hM.res.1.blk rfl)<|go A6 1 [] (fun b8=>fun _=>DH 1 0 rfl rfl Me rfl rfl rfl rfl rfl rfl rfl rfl (fun _ _=>rfl) oM oM fun na3 nc3=>go A6 8 [] (And.intro ⟨oM,oM⟩<|fun _=>?_))))
   exact Eb ((i+1,r,v-1,(tx2,.var (v-1))::m,self.snoc (.var (v-1)),xs++tC (.var (v-1)) none 0,ra2,rc2,(nums++[v-1]),na3,nc3)) (show r.len<(Nd.cons op2 ln2 co2 tx2 nm2 k2 r).len from Nat.lt_succ_self _) ⟨show i+1+r.len=_ by omega,hdv.trans (K2 hop2 hvl),show (self.snoc _).len=_ by rw[Ty.len_snoc,hsl,List.length_append];rfl,show (nums++[v-1]).length≤i+1 by rw[List.length_append];simp;omega,Ty.bnd_snoc hsb (B7 _),JK (fun t=>tV t none 0) hdm hvl,fun n t h=>by rw[Ja] at h;split at h;(cases h;exact⟨_,rfl⟩);exact hmv n t h,show s.vars-((i+1:Nat):Int)≤v-1 by omega,show v-1≤s.vars by omega⟩ (sQ rfl rfl rfl rfl (Eq.trans (b:=some (Value.slice na3 (nums.length+1) nc3)) rfl (by dsimp only;rw[List.length_append];rfl)) rfl rfl rfl) (fun w f hM=>⟨_,by have hM9:=(hM.more (B':=[]) (F':=[fun w f=>Bl w f (self.snoc (.var (v-1))) (xs++tC (.var (v-1)) none 0)]) nE (A1.mem ⟨Bl.snoc (Ah.nil _ _ _ _) hM.f3,trivial⟩) (Af.mem ⟨Bl.mono,trivial⟩)).less (sD (sD (sD (sD (sK (sK sZ)))))) sR (B':=[]) nE (F':=[fun w f=>Az w f (some ⟨eb,eo,none⟩) (i+1) r,fun w f=>Bl w f (self.snoc (.var (v-1))) (xs++tC (.var (v-1)) none 0),fun w f=>FE w f,fun w f=>AK w f kids (some ⟨eb,eo,none⟩) nc]) (mR [2,0,5,6]);dsimp only;rw[show (nums++[v-1]).length=nums.length+1 by rw[List.length_append];rfl,List.map_append];exact hM9⟩)
   refine Ag rfl ?_ Ai
   refine go A6 2 [] (fun b9=>fun _=>Bh [1,2,4] (fun w f h _=>h.1.blk) rfl (fun _ h=>h)<|Ag rfl ?_ Ai)
   refine go A6 2 [3] (y<|fun _=>Bh [1,2,4] (fun w f h _=>h.1.blk) rfl (fun _ h=>h)<|Ag rfl ?_ Ai)
   refine DH 0 0 rfl rfl Dq rfl rfl rfl rfl rfl rfl rfl rfl (fun _ _=>rfl) oM oM fun ra2 rc2=>go A6 1 [] (fun _=>Bh [1,2,4] (fun w f h _=>h.1.blk) rfl (fun _ h=>h)<|AA A6 1 [] (fun _=>Ag rfl ?_ Ai))
   refine go A6 2 [3] (y<|fun _=>Bh [1,2,4] (fun w f h _=>h.1.blk) rfl (fun _ h=>h)<|B3<|go A6 6 [] (fun _=>Fh (v:=.int .i64 (v-1)) rfl rfl (fun w f hM=>Al rfl CZ hM.res.1.blk rfl)<|go A6 1 [] (fun b10=>fun _=>DH 1 0 rfl rfl Me rfl rfl rfl rfl rfl rfl rfl rfl (fun _ _=>rfl) oM oM fun na3 nc3=>go A6 8 [] (And.intro ⟨oM,oM⟩<|fun _=>?_))))
   exact Eb ((i+1,r,v-1,(tx2,.var (v-1))::m,self.snoc (.var (v-1)),xs++tC (.var (v-1)) none 0,ra2,rc2,(nums++[v-1]),na3,nc3)) (show r.len<(Nd.cons op2 ln2 co2 tx2 nm2 k2 r).len from Nat.lt_succ_self _) ⟨show i+1+r.len=_ by omega,hdv.trans (K2 hop2 hvl),show (self.snoc _).len=_ by rw[Ty.len_snoc,hsl,List.length_append];rfl,show (nums++[v-1]).length≤i+1 by rw[List.length_append];simp;omega,Ty.bnd_snoc hsb (B7 _),JK (fun t=>tV t none 0) hdm hvl,fun n t h=>by rw[Ja] at h;split at h;(cases h;exact⟨_,rfl⟩);exact hmv n t h,show s.vars-((i+1:Nat):Int)≤v-1 by omega,show v-1≤s.vars by omega⟩ (sQ rfl rfl rfl rfl (Eq.trans (b:=some (Value.slice na3 (nums.length+1) nc3)) rfl (by dsimp only;rw[List.length_append];rfl)) rfl rfl rfl) (fun w f hM=>⟨_,by have hM9:=(hM.more (B':=[]) (F':=[fun w f=>Bl w f (self.snoc (.var (v-1))) (xs++tC (.var (v-1)) none 0)]) nE (A1.mem ⟨Bl.snoc (Ah.nil _ _ _ _) hM.f3,trivial⟩) (Af.mem ⟨Bl.mono,trivial⟩)).less (sD (sD (sD (sD (sK (sK sZ)))))) sR (B':=[]) nE (F':=[fun w f=>Az w f (some ⟨eb,eo,none⟩) (i+1) r,fun w f=>Bl w f (self.snoc (.var (v-1))) (xs++tC (.var (v-1)) none 0),fun w f=>FE w f,fun w f=>AK w f kids (some ⟨eb,eo,none⟩) nc]) (mR [2,0,5,6]);dsimp only;rw[show (nums++[v-1]).length=nums.length+1 by rw[List.length_append];rfl,List.map_append];exact hM9⟩)
  |some tv =>
   obtain⟨q0,rfl⟩:=hmv tx2 tv hvl
   exact go A6 4 [0] (y<|fun _=>Fh rfl rfl (fun w f hM=>KJ (K:=CE) (a:=tx2) (v:=tV (.var q0) none 0) rfl rfl LN H7 ND hM.res.2 hdm (by rw[EP (fun t=>tV t none 0),hvl];rfl))<|go A6 14 [0,3] (fun b11=>y<|y<|fun _=>MY rfl rfl (eC ES rfl rfl) (fun _ h=>h.elim) (fun w f hM=>(C0 w f hM.vl false ln co).mono (fun _ _ ⟨_,_,_,h,_⟩=>by cases h) fun _ _ h=>h) (fun er w2 f2 he hE=>⟨rfl,er,f2,rfl,(by rw[G8,if_neg hnd0,hdv,TD hop2 hvl,he.2]),hE⟩)))
  refine go A6 3 [] (fun _=>Hc<|go A6 3 [] (fun _=>?_))
  obtain rfl:r=.nil:=Nd.len0 (by have:=of_decide_eq_false h1;omega)
  have hdv2:EE ln co kids s.vars [] .nil []=.ok (v,m,self,nums):=hdv
  have hil0:i≤kids.len:=oM
  refine QH (fun w f=>Ah w f self ra rc) Ah.mono (fun w f hM=>HL hM hM.f1)<|QH (fun w f=>BN w f nums na2 nc2) BN.mono (fun w f hM=>M1 hM) ?_
  have hwv:DR ({s with vars:=v}:CS):=hw.setVars
  refine Ml (fun w=>AQ w A.cb [.pointer (some ⟨A.sb,0,none⟩),.map (some A.km),.map (some A.dm),.map (some A.rm),.int .i64 v] 64) (fun w f h _=>h.1.blk) [0,1] Ap (rd [0,1,2,3,4,5,6,7] (.br 8 .fin .fin)) rfl kR kR kR (fun _ _ _ _ _ h=>h)<|AA A6 3 [] (fun _=>HN rfl rfl rfl (fun w hK=>Al rfl Ry hK.2.2 rfl)<|AA A6 4 [1] (y<|fun _=>Ag rfl ?_ Ai))
  refine pA hA hvm hwv rfl rfl rfl rfl R2 H7 hdl<|go A6 1 [] (fun _=>Bh [0,1] (fun w f h _=>h.1.blk) rfl (fun _ h=>h)<|B3<|go A6 10 [1] (y<|fun _=>?_))
  refine H9 (α:=Nat×Nd×List (List UInt8×Mk)) (fun x=>x.2.1.len) (fun x=>x.1+x.2.1.len=kids.len∧DU ((tx,(nums.length:Int))::s.datas) m (.con tx self) nums kids s.cons=DU ((tx,(nums.length:Int))::s.datas) m (.con tx self) nums x.2.1 x.2.2∧DR ({s with vars:=v,datas:=(tx,(nums.length:Int))::s.datas,cons:=x.2.2}:CS)∧x.2.1.txb∧x.2.1.size≤kids.size) (fun x=>(E7 0 (.pointer (some ⟨A.cb,0,none⟩)) 6 (.map (some vm)) 7 (.pointer (some ⟨b2,0,none⟩)) 8 (.slice na2 nums.length nc2) 111 (.slice na kids.len nc) 112 (.int .i64 (kids.len:Int)) 113 (.int .i64 (x.1:Int)))) (fun x=>⟨BB A,fun b=>BB A b∨b=vm,EB 64 130 A ({s with vars:=v,datas:=(tx,(nums.length:Int))::s.datas,cons:=x.2.2}:CS) vm m,w,f⟩) (fun x=>[⟨b2,[.int .i64 1,.int .i64 0,S tx,.slice ra nums.length rc],56,true⟩,⟨b1,[.int .i64 op,.int .i64 ln,.int .i64 co,S tx,.int .i64 nm,.slice na kids.len nc],54,true⟩]) (fun x=>[]) (fun x=>[]) (fun x=>[fun w f=>Az w f na x.1 x.2.1,fun w f=>BN w f nums na2 nc2,fun w f=>Ah w f self ra rc,fun w f=>FE w f]) (0,kids,s.cons) ⟨Nat.zero_add _,rfl,(hwv.addData hdl),htb0,Nat.le_refl _⟩ lE (fun w f hM=>hM.more (B':=[]) (F':=[fun w f=>Az w f na 0 kids]) nE (A1.mem ⟨AK.at hM.f5,trivial⟩) (Af.mem ⟨Az.mono,trivial⟩) |>.less sR sR nE (mR [0,1,2,5])) ?_
  rintro⟨j,r,cl⟩ ⟨hi3,hdc,hwc,htxb,hrs⟩
  dsimp only at hi3 hdc hwc htxb hrs ⊢
  refine go A6 6 [] (fun _=>AZ 114 rfl rfl (fun h3=>?_) (fun h3=>?_))
  refine go A6 6 [] (fun _=>?_)
  have hil:j<kids.len:=by have:=of_decide_eq_true h3;omega
  obtain⟨op2,ln2,co2,tx2,nm2,k2,r,rfl⟩:=Nd.cases1 r oM
  have hi2:j+(r.len+1)=kids.len:=hi3
  obtain⟨htx2,hkx2,hrx2⟩:=htxb
  have hrs2:k2.size+r.size+1≤kids.size:=hrs
  have hkl2:=Nd.len_le k2
  refine CB (α:=Nat×Nat×Option Addr×Nat) (fun x=>na=some ⟨x.1,x.2.1,none⟩) (fun x=>[⟨x.1,x.2.1+j*6,F9 op2 ln2 co2 tx2 nm2 x.2.2.1 k2.len x.2.2.2⟩]) (fun x=>[fun w f=>AK w f k2 x.2.2.1 x.2.2.2,fun w f=>Az w f na (j+1) r]) (fun w f hM=>let ⟨b,off,ka,kc,h1,h2,h3,h4⟩:=Az.head hM.f0;⟨(b,off,ka,kc),h1,(oE h2),A1.mem ⟨h3,h4,trivial⟩⟩) (fun x=>Af.mem ⟨AK.mono,Az.mono,trivial⟩) ?_
  rintro⟨eb,eo,ka,kc⟩ rfl
  refine go A6 15 [100,0,0,0] (And.intro oM<|y2<|fun b12=>y<|y<|fun _=>AZ 119 rfl rfl (fun h4=>?_) (fun h4=>?_))
  exact go A6 9 [] (And.intro ⟨oM,oM⟩<|fun _=>Eb ((j+1,r,cl)) (show r.len<(Nd.cons op2 ln2 co2 tx2 nm2 k2 r).len from Nat.lt_succ_self _) ⟨show j+1+r.len=_ by omega,hdc.trans (Sd (by simpa using h4)),hwc,hrx2,show r.size≤_ by omega⟩ lE (fun w f hM=>⟨_,hM.less (sD (sK (sK sZ))) sR nE (mR [1,3,4,5])⟩))
  refine go A6 4 [] (fun _=>?_)
  have hop2:(op2==42)=true:=by have h9:(op2 != 42)=false:=h4;simpa using h9
  refine mN (fun es w f=>EB 64 130 A ({s with vars:=v,datas:=(tx,(nums.length:Int))::s.datas,cons:=cl}:CS) vm m w f∧Ci CE w A.km es∧Cd w f cl es) (fun w f h=>let ⟨es,h1,h2⟩:=h.1.cons;⟨es,h,h1,h2⟩) (fun es w f w' f' h hF hb=>⟨EB.stab w f w' f' h.1 hF hb,h.2.1.heap (hb _ (.inl (.inr (.inr (.inr (.inl rfl)))))),Cd.mono hF _ _ h.2.2⟩) fun es=>Ky (fun w f hM=>(show KP es from Cd.dis hM.res.2.2 hwc.dc)) fun hdis=>?_
  cases hcl:BZ cl tx2 with
  |none =>
   refine Ky (fun w f hM=>(Cd.look hM.res.2.2).1 hcl) fun hlk=>Ml (fun w=>AQ w A.cb [.pointer (some ⟨A.sb,0,none⟩),.map (some A.km),.map (some A.dm),.map (some A.rm),.int .i64 v] 64∧Ci CE w A.km es) (fun w f h _=>⟨h.1.1.blk,h.2.1⟩) [0,1,2] Ap (rd [0,1,2,3,4,5,6,7,8,9] (.br 10 (.br 11 (.rd 12 .fin) .fin) .fin)) rfl kR kR kR (fun _ _ _ _ _ h=>h)<|AA A6 3 [] (fun _=>HN rfl rfl rfl (fun w hK=>Al rfl O7 hK.2.2.1 rfl)<|AA A6 2 [0] (y<|fun _=>HN rfl rfl rfl (fun w hK=>KE (K:=CE) (a:=tx2) rfl rfl Pe H7 UM hK.2.2.2 hdis hlk)<|AA A6 3 [] (fun _=>Ag rfl ?_ Ai)))
   refine go A6 2 [] (fun b13=>fun _=>Bh [1,2,3] (fun w f h _=>⟨h.1.1.blk,h.2.1⟩) rfl (fun _ h=>h)<|Ag rfl ?_ Ai)
   refine go A6 2 [0] (y<|fun _=>Bh [1,2,3] (fun w f h _=>⟨h.1.1.blk,h.2.1⟩) rfl (fun _ h=>h)<|AA A6 1 [] (fun _=>B3<|go A6 7 [1] (y<|fun _=>DZ (α:=Unit) (val:=fun _=>.tuple #[]) (q:=fun _=>true=true) (I':=fun _=>EB 64 130 A ({s with vars:=v,datas:=(tx,(nums.length:Int))::s.datas,cons:=cl}:CS) vm m) (F':=fun _=>[]) (pe:=fun er=>true=false∧er=(ln2,co2,11)) (M:=fun _=>False) (T:=47) rfl rfl (eC ES rfl rfl) (fun _ h=>h.elim) (fun w f hM=>(C0 w f hM.vl true ln2 co2).mono (fun _ _ ⟨x,f2,h1,h2,h3,h4⟩=>⟨x,f2,h1,h2,h3.mono (fun _ h=>h.elim),(hM.call0 h3).res.1,h4⟩) fun _ _ h=>h) (fun _=>EB.stab) (fun _=>trivial) (fun er w2 f2 he hE=>⟨rfl,er,f2,rfl,(by cases he.1),hE⟩) ?_)))
   rintro⟨⟩ hnd
   refine go A6 21 [2,0,2] (y<|fun b14=>y<|y<|fun _=>QJ 56 4 ?_)
   refine H9 (α:=Nat×Nd×Ty×List Value×Option Addr×Nat) (fun x=>x.2.1.len) (fun x=>x.1+x.2.1.len=k2.len∧x.2.2.1.len=x.1∧Gw ((tx,(nums.length:Int))::s.datas) m k2=(match Gw ((tx,(nums.length:Int))::s.datas) m x.2.1 with|.error x=>.error x|.ok l=>.ok (x.2.2.1.app l))∧x.2.2.1.bnd∧x.2.1.txb∧x.2.1.size≤k2.size) (fun x=>(tR 0 (.pointer (some ⟨A.cb,0,none⟩)) 6 (.map (some vm)) 7 (.pointer (some ⟨b2,0,none⟩)) 8 (.slice na2 nums.length nc2) 14 (.pointer (some ⟨b12,0,none⟩)) 17 (.pointer (some ⟨b14,0,none⟩)) 111 (.slice (some ⟨eb,eo,none⟩) kids.len nc) 112 (.int .i64 (kids.len:Int)) 113 (.int .i64 (j:Int)) 139 (.slice ka k2.len kc) 140 (.int .i64 (k2.len:Int)) 141 (.int .i64 (x.1:Int)))) (fun x=>⟨BB A,fun b=>BB A b∨b=vm,EB 64 130 A ({s with vars:=v,datas:=(tx,(nums.length:Int))::s.datas,cons:=cl}:CS) vm m,w,f⟩) (fun x=>[⟨b14,[.slice x.2.2.2.2.1 x.1 x.2.2.2.2.2,.int .i64 1,.int .i64 0,S tx,.slice ra nums.length rc,.slice na2 nums.length nc2],92,true⟩,⟨b12,F9 op2 ln2 co2 tx2 nm2 ka k2.len kc,54,true⟩,⟨b2,[.int .i64 1,.int .i64 0,S tx,.slice ra nums.length rc],56,true⟩,⟨b1,[.int .i64 op,.int .i64 ln,.int .i64 co,S tx,.int .i64 nm,.slice (some ⟨eb,eo,none⟩) kids.len nc],54,true⟩]) (fun x=>[⟨56,4,x.2.2.2.2.1,x.2.2.2.2.2,x.1,x.2.2.2.1⟩]) (fun x=>[]) (fun x=>[fun w f=>Az w f ka x.1 x.2.1,fun w f=>Bl w f x.2.2.1 x.2.2.2.1,fun w f=>FE w f,fun w f=>BN w f nums na2 nc2,fun w f=>Ah w f self ra rc,fun w f=>Az w f (some ⟨eb,eo,none⟩) (j+1) r]) (0,k2,.nil,[],none,0) ⟨Nat.zero_add _,rfl,MZ,trivial,hkx2,Nat.le_refl _⟩ lE (fun w f hM=>hM.more (B':=[]) (F':=[fun w f=>Az w f ka 0 k2,fun w f=>Bl w f .nil []]) nE (A1.mem ⟨AK.at hM.f0,rfl,trivial⟩) (Af.mem ⟨Az.mono,Bl.mono,trivial⟩) |>.less (sK (sD (sK (sK (sK sZ))))) sR nE (mR [0,1,7,5,6,3])) ?_
   rintro⟨i4,r4,dn,xs4,ra5,rc5⟩ ⟨hi4,hdl2,hty,hdb,htxb4,hrs4⟩
   dsimp only at hi4 hdl2 hty hdb htxb4 hrs4 ⊢
   refine go A6 6 [] (fun _=>AZ 142 rfl rfl (fun h5=>?_) (fun h5=>?_))
   refine go A6 6 [] (fun _=>?_)
   have hil4:i4<k2.len:=by have:=of_decide_eq_true h5;omega
   obtain⟨op3,ln3,co3,tx3,nm3,k3,r4,rfl⟩:=Nd.cases1 r4 oM
   have hi5:i4+(r4.len+1)=k2.len:=hi4
   obtain⟨htx3,hkx3,hrx3⟩:=htxb4
   have hrs4b:k3.size+r4.size+1≤k2.size:=hrs4
   refine CB (α:=Nat×Nat×Option Addr×Nat) (fun x=>ka=some ⟨x.1,x.2.1,none⟩) (fun x=>[⟨x.1,x.2.1+i4*6,F9 op3 ln3 co3 tx3 nm3 x.2.2.1 k3.len x.2.2.2⟩]) (fun x=>[fun w f=>AK w f k3 x.2.2.1 x.2.2.2,fun w f=>Az w f ka (i4+1) r4]) (fun w f hM=>let ⟨b,off,ka,kc,h1,h2,h3,h4⟩:=Az.head hM.f0;⟨(b,off,ka,kc),h1,(oE h2),A1.mem ⟨h3,h4,trivial⟩⟩) (fun x=>Af.mem ⟨AK.mono,Az.mono,trivial⟩) ?_
   rintro⟨eb4,eo4,ka4,kc4⟩ rfl
   refine go A6 7 [100,0,0] (And.intro oM<|y2<|fun b15=>y<|fun _=>Dj [0,2,3,4] Ap (rd [0,2,3,4] (.br 1 (.br 5 (.br 6 (.br 7 (.rd 8 (.br 9 .fin .fin)) .fin) .fin) .fin) (.br 5 (.br 1 (.br 6 (.br 7 (.rd 8 (.br 9 .fin .fin)) .fin) .fin) (.br 6 (.br 1 (.br 7 (.rd 8 (.br 9 .fin .fin)) .fin) .fin) .fin)) .fin))) rfl kR<|AA A6 4 [0] (y<|fun _=>Ag rfl ?_ ?_))
   refine go A6 2 [1] (y<|fun _=>Ax [0,2,3,4] rfl<|Ag rfl ?_ Ai)
   refine DZ (I':=fun _=>EB 64 130 A ({s with vars:=v,datas:=(tx,(nums.length:Int))::s.datas,cons:=cl}:CS) vm m) (M:=fun _=>False) (α:=T1×Option Addr×Nat) (val:=fun x=>tV x.1 x.2.1 x.2.2) (q:=fun x=>Dd ((tx,(nums.length:Int))::s.datas) m op3 ln3 co3 tx3 k3=.ok x.1∧x.1.bnd) (F':=fun x=>[fun w f=>Ah w f x.1.kids x.2.1 x.2.2]) (pe:=fun er=>Dd ((tx,(nums.length:Int))::s.datas) m op3 ln3 co3 tx3 k3=.error er) (T:=47) rfl rfl (eC Nz rfl rfl) (fun _ h=>h.elim) (fun w f hM=>(KQ (k3.size+1) w f hM.vl A ({s with vars:=v,datas:=(tx,(nums.length:Int))::s.datas,cons:=cl}:CS) hM.res.1 hwc hM.f4 op3 ln3 co3 nm3 tx3 k3 ka4 kc4 (.map (some vm)) m (Nat.lt_succ_self _) oM htx3 hkx3 (.inr ⟨vm,rfl,hM.res.2,hdm,hmv⟩) hM.f0).mono (fun _ _ ⟨x,f2,h1,h2,h3,h4⟩=>⟨x,f2,h1,h2,h3.mono (fun _ h=>h.elim),(hM.call0 h3).res,h4⟩) fun _ _ h=>h) (fun _=>EB.stab) (fun _=>⟨Ah.mono,trivial⟩) (fun er w2 f2 he hE=>⟨rfl,er,f2,rfl,(by rw[G8,if_neg hnd0,hdv2];simp only;rw[hdc,NA hop2 hcl (by rw[hty,J8 he])]),hE⟩) ?_
   rintro⟨q5,qa,qc⟩ ⟨hp5,hqb⟩
   dsimp only at hp5 hqb ⊢
   refine go A6 1 [] (fun _=>Ax [0,2,3,4] rfl<|Ag rfl ?_ Ai)
   refine go A6 2 [] (fun b16=>fun _=>Ax [1,3,4,5] rfl<|Ag rfl ?_ Ai)
   refine DH 0 0 rfl rfl Dq rfl rfl rfl rfl rfl rfl rfl rfl (fun _ _=>rfl) oM oM fun ra6 rc6=>go A6 1 [] (fun _=>Ax [1,3,4,5] rfl<|AA A6 1 [] (fun _=>Ag rfl ?_ Ai))
   exact go A6 2 [2] (y<|fun _=>Ax [1,3,4,5] rfl<|B3<|go A6 6 [] (And.intro ⟨oM,oM⟩<|fun _=>Eb ((i4+1,r4,dn.snoc q5,xs4++tC q5 qa qc,ra6,rc6)) (show r4.len<(Nd.cons op3 ln3 co3 tx3 nm3 k3 r4).len from Nat.lt_succ_self _) ⟨show i4+1+r4.len=_ by omega,show (dn.snoc _).len=i4+1 by rw[Ty.len_snoc,hdl2],hty.trans (GR hp5),show (dn.snoc _).bnd from Ty.bnd_snoc hdb hqb,hrx3,show r4.size≤_ by omega⟩ lE (fun w f hM=>⟨_,(hM.more (B':=[]) (F':=[fun w f=>Bl w f (dn.snoc q5) (xs4++tC q5 qa qc)]) nE (A1.mem ⟨Bl.snoc hM.f0 hM.f4,trivial⟩) (Af.mem ⟨Bl.mono,trivial⟩)).less (sD (sD (sK (sK (sK (sK sZ)))))) sR nE (mR [3,0,6,7,8,9])⟩)))
   refine Ag rfl ?_ Ai
   refine DZ (I':=fun _=>EB 64 130 A ({s with vars:=v,datas:=(tx,(nums.length:Int))::s.datas,cons:=cl}:CS) vm m) (M:=fun _=>False) (α:=T1×Option Addr×Nat) (val:=fun x=>tV x.1 x.2.1 x.2.2) (q:=fun x=>Dd ((tx,(nums.length:Int))::s.datas) m op3 ln3 co3 tx3 k3=.ok x.1∧x.1.bnd) (F':=fun x=>[fun w f=>Ah w f x.1.kids x.2.1 x.2.2]) (pe:=fun er=>Dd ((tx,(nums.length:Int))::s.datas) m op3 ln3 co3 tx3 k3=.error er) (T:=47) rfl rfl (eC Nz rfl rfl) (fun _ h=>h.elim) (fun w f hM=>(KQ (k3.size+1) w f hM.vl A ({s with vars:=v,datas:=(tx,(nums.length:Int))::s.datas,cons:=cl}:CS) hM.res.1 hwc hM.f4 op3 ln3 co3 nm3 tx3 k3 ka4 kc4 (.map (some vm)) m (Nat.lt_succ_self _) oM htx3 hkx3 (.inr ⟨vm,rfl,hM.res.2,hdm,hmv⟩) hM.f0).mono (fun _ _ ⟨x,f2,h1,h2,h3,h4⟩=>⟨x,f2,h1,h2,h3.mono (fun _ h=>h.elim),(hM.call0 h3).res,h4⟩) fun _ _ h=>h) (fun _=>EB.stab) (fun _=>⟨Ah.mono,trivial⟩) (fun er w2 f2 he hE=>⟨rfl,er,f2,rfl,(by rw[G8,if_neg hnd0,hdv2];simp only;rw[hdc,NA hop2 hcl (by rw[hty,J8 he])]),hE⟩) ?_
   rintro⟨q5,qa,qc⟩ ⟨hp5,hqb⟩
   dsimp only at hp5 hqb ⊢
   refine go A6 1 [] (fun _=>Ax [0,2,3,4] rfl<|Ag rfl ?_ ?_)
   refine go A6 2 [1] (y<|fun _=>Ax [0,2,3,4] rfl<|Ag rfl ?_ Ai)
   refine go A6 2 [] (fun b17=>fun _=>Ax [1,3,4,5] rfl<|Ag rfl ?_ Ai)
   refine DH 0 0 rfl rfl Dq rfl rfl rfl rfl rfl rfl rfl rfl (fun _ _=>rfl) oM oM fun ra6 rc6=>go A6 1 [] (fun _=>Ax [1,3,4,5] rfl<|AA A6 1 [] (fun _=>Ag rfl ?_ Ai))
   exact go A6 2 [2] (y<|fun _=>Ax [1,3,4,5] rfl<|B3<|go A6 6 [] (And.intro ⟨oM,oM⟩<|fun _=>Eb ((i4+1,r4,dn.snoc q5,xs4++tC q5 qa qc,ra6,rc6)) (show r4.len<(Nd.cons op3 ln3 co3 tx3 nm3 k3 r4).len from Nat.lt_succ_self _) ⟨show i4+1+r4.len=_ by omega,show (dn.snoc _).len=i4+1 by rw[Ty.len_snoc,hdl2],hty.trans (GR hp5),show (dn.snoc _).bnd from Ty.bnd_snoc hdb hqb,hrx3,show r4.size≤_ by omega⟩ lE (fun w f hM=>⟨_,(hM.more (B':=[]) (F':=[fun w f=>Bl w f (dn.snoc q5) (xs4++tC q5 qa qc)]) nE (A1.mem ⟨Bl.snoc hM.f0 hM.f4,trivial⟩) (Af.mem ⟨Bl.mono,trivial⟩)).less (sD (sD (sK (sK (sK (sK sZ)))))) sR nE (mR [3,0,6,7,8,9])⟩)))
   refine Ag rfl ?_ Ai
   refine go A6 2 [] (fun b18=>fun _=>Ax [1,3,4,5] rfl<|Ag rfl ?_ Ai)
   refine go A6 2 [2] (y<|fun _=>Ax [1,3,4,5] rfl<|Ag rfl ?_ Ai)
   refine DH 0 0 rfl rfl Dq rfl rfl rfl rfl rfl rfl rfl rfl (fun _ _=>rfl) oM oM fun ra6 rc6=>go A6 1 [] (fun _=>Ax [1,3,4,5] rfl<|AA A6 1 [] (fun _=>Ag rfl ?_ Ai))
   exact go A6 2 [2] (y<|fun _=>Ax [1,3,4,5] rfl<|B3<|go A6 6 [] (And.intro ⟨oM,oM⟩<|fun _=>Eb ((i4+1,r4,dn.snoc q5,xs4++tC q5 qa qc,ra6,rc6)) (show r4.len<(Nd.cons op3 ln3 co3 tx3 nm3 k3 r4).len from Nat.lt_succ_self _) ⟨show i4+1+r4.len=_ by omega,show (dn.snoc _).len=i4+1 by rw[Ty.len_snoc,hdl2],hty.trans (GR hp5),show (dn.snoc _).bnd from Ty.bnd_snoc hdb hqb,hrx3,show r4.size≤_ by omega⟩ lE (fun w f hM=>⟨_,(hM.more (B':=[]) (F':=[fun w f=>Bl w f (dn.snoc q5) (xs4++tC q5 qa qc)]) nE (A1.mem ⟨Bl.snoc hM.f0 hM.f4,trivial⟩) (Af.mem ⟨Bl.mono,trivial⟩)).less (sD (sD (sK (sK (sK (sK sZ)))))) sR nE (mR [3,0,6,7,8,9])⟩)))
   refine go A6 3 [] (fun _=>Hc<|go A6 2 [] (fun _=>?_))
   obtain rfl:r4=.nil:=Nd.len0 (by have:=of_decide_eq_false h5;omega)
   have hty2:Gw ((tx,(nums.length:Int))::s.datas) m k2=.ok dn:=by rw[hty];show (Except.ok (dn.app .nil):RI Ty)=_;rw[Ty.app_nil]
   have hdk:dn.len≤200000:=by have:i4+0=k2.len:=hi4;omega
   subst hdl2
   refine QH (fun w f=>Ah w f dn ra5 rc5) Ah.mono (fun w f hM=>HL hM hM.f1)<|Ml (fun w=>AQ w A.cb [.pointer (some ⟨A.sb,0,none⟩),.map (some A.km),.map (some A.dm),.map (some A.rm),.int .i64 v] 64) (fun w f h _=>h.1.blk) [0,1,2,3] Ap (rd [0,1,2,3,4,5,6] (.br 7 .fin .fin)) rfl kR kR kR (fun _ _ _ _ _ h=>h)<|AA A6 3 [] (fun _=>HN rfl rfl rfl (fun w hK=>Al rfl O7 hK.2.2 rfl)<|AA A6 3 [1,0] (y<|y<|fun _=>Ag rfl ?_ Ai))
   exact mO (m:=⟨dn,.con tx self,nums⟩) (aa:=ra5) (ac:=rc5) (oa:=ra) (oc:=rc) (va:=na2) (vc:=nc2) (i1:=0) (i2:=5) (i3:=4) hA hvm hwc rfl rfl rfl rfl (by unfold ZF tC;simp only[T1.kids,hsl];rfl) Pe H7 hcl rfl rfl rfl<|go A6 1 [] (fun _=>Bh [0,1,2,3] (fun w f h _=>h.1.blk) rfl (fun _ h=>h)<|B3<|go A6 6 [] (And.intro ⟨oM,oM⟩<|fun _=>Eb ((j+1,r,(tx2,⟨dn,.con tx self,nums⟩)::cl)) (show r.len<(Nd.cons op2 ln2 co2 tx2 nm2 k2 r).len from Nat.lt_succ_self _) ⟨show j+1+r.len=_ by omega,hdc.trans (Ul hop2 hcl hty2),hwc.addCons hcl ⟨hdk,hdb,D0 oM oM hsb,by dsimp only;omega⟩,hrx2,show r.size≤_ by omega⟩ lE (fun w f hM=>⟨_,hM.less (sD (sD (sK (sK sZ)))) sR nE (mR [6,4,5,3])⟩)))
  |some mk =>
   refine CB (α:=Option Addr×Nat×Option Addr×Nat×Option Addr×Nat) (fun x=>FC es tx2=some (.agg (ZF mk x.1 x.2.1 x.2.2.1 x.2.2.2.1 x.2.2.2.2.1 x.2.2.2.2.2).toArray)) (fun x=>[]) (fun x=>[]) (fun w f hM=>let ⟨aa,ac,oa,oc,va,vc,h1,_⟩:=(Cd.look hM.res.2.2).2 mk hcl;⟨(aa,ac,oa,oc,va,vc),h1,nE,nE⟩) (fun x _ h=>by cases h) ?_
   rintro⟨aa,ac,oa,oc,va,vc⟩ hlk
   refine Ml (fun w=>AQ w A.cb [.pointer (some ⟨A.sb,0,none⟩),.map (some A.km),.map (some A.dm),.map (some A.rm),.int .i64 v] 64∧Ci CE w A.km es) (fun w f h _=>⟨h.1.1.blk,h.2.1⟩) [0,1,2] Ap (rd [0,1,2,3,4,5,6,7,8,9] (.br 10 (.br 11 (.rd 12 .fin) .fin) .fin)) rfl kR kR kR (fun _ _ _ _ _ h=>h)<|AA A6 3 [] (fun _=>HN rfl rfl rfl (fun w hK=>Al rfl O7 hK.2.2.1 rfl)<|AA A6 2 [0] (y<|fun _=>HN rfl rfl rfl (fun w hK=>KJ (K:=CE) (a:=tx2) rfl rfl Pe H7 UM hK.2.2.2 hdis hlk)<|AA A6 3 [] (fun _=>Ag rfl ?_ Ai)))
   refine go A6 2 [] (fun b19=>fun _=>Bh [1,2,3] (fun w f h _=>⟨h.1.1.blk,h.2.1⟩) rfl (fun _ h=>h)<|Ag rfl ?_ Ai)
   exact go A6 2 [0] (y<|fun _=>Bh [1,2,3] (fun w f h _=>⟨h.1.1.blk,h.2.1⟩) rfl (fun _ h=>h)<|AA A6 1 [] (fun _=>B3<|go A6 7 [1] (y<|fun _=>MY rfl rfl (eC ES rfl rfl) (fun _ h=>h.elim) (fun w f hM=>(C0 w f hM.vl false ln2 co2).mono (fun _ _ ⟨_,_,_,h,_⟩=>by cases h) fun _ _ h=>h) (fun er w2 f2 he hE=>⟨rfl,er,f2,rfl,(by rw[G8,if_neg hnd0,hdv2];simp only;rw[hdc,QE hop2 hcl,he.2]),hE⟩))))
  refine go A6 3 [] (fun _=>Hc<|go A6 1 [] (fun _=>?_))
  obtain rfl:r=.nil:=Nd.len0 (by have:=of_decide_eq_false h3;omega)
  have hdc2:DU ((tx,(nums.length:Int))::s.datas) m (.con tx self) nums kids s.cons=.ok cl:=hdc
  exact aG (fun w f hM=>DT rfl) (fun w f hM=>⟨({s with vars:=v,datas:=(tx,(nums.length:Int))::s.datas,cons:=cl}:CS),f,rfl,⟨(by rw[G8,if_neg hnd0,hdv2];simp only;rw[hdc2]),hwc,rfl,by dsimp only;omega,hv2⟩,hM.exm,hM.res.1,trivial⟩)
 |some cnt =>
  refine Ml (fun w=>AQ w A.cb [.pointer (some ⟨A.sb,0,none⟩),.map (some A.km),.map (some A.dm),.map (some A.rm),.int .i64 s.vars] 64∧Ci CE w A.dm (s.datas.map fun p=>(p.1,.int .i64 p.2))) (fun w f h _=>⟨h.blk,h.datas⟩) [0] Ap (rd [0,1,2,3,4,5,6,7,8,9,10,11] .fin) rfl kR kR kR (fun _ _ _ _ _ h=>h)<|AA A6 3 [] (fun _=>HN rfl rfl rfl (fun w hK=>Al rfl Ry hK.2.2.1 rfl)<|AA A6 2 [0] (y<|fun _=>HN rfl rfl rfl (fun w hK=>KJ (K:=CE) (a:=tx) (v:=.int .i64 cnt) rfl rfl R2 H7 ZM hK.2.2.2 hw.dd (by rw[EP (fun c=>Value.int .i64 c),hdl];rfl))<|AA A6 5 [] (fun _=>B3<|go A6 2 [] (fun _=>Dj [0] Ap (rd [0,1,2,3,4,5,6,10,11] (.br 7 (.rd 8 (.rd 9 (.br 12 .fin .fin))) .fin)) rfl kR<|AA A6 9 [0] (y<|fun _=>?_)))))
  refine Ag rfl ?_ Ai
  refine go A6 2 [] (fun _=>Ax [0] rfl<|AA A6 2 [] (fun _=>Ag rfl ?_ Ai))
  exact MY rfl rfl (eC ES rfl rfl) (fun _ h=>h.elim) (fun w f hM=>(C0 w f hM.vl false ln co).mono (fun _ _ ⟨_,_,_,h,_⟩=>by cases h) fun _ _ h=>h) (fun er w2 f2 he hE=>⟨rfl,er,f2,rfl,(by rw[G8,if_pos (by rw[hdl];rfl),he.2]),hE⟩)
def sH:Ea:=⟨[],[(131,9,1),(52,56,4),(93,96,6),(86,89,4),(23,54,6)],[],[],[(9,false,1)],[(96,[.string ⟨#[]⟩,.int .i64 0,.int .i64 0,.int .i64 0,.string ⟨#[]⟩,.slice none 0 0]),(89,[.string ⟨#[]⟩,.string ⟨#[]⟩,.int .i64 0,.int .i64 0])],[(96,[(0,1),(1,1),(2,4)]),(89,[(0,1),(1,1),(2,1),(3,1)])],[]⟩
theorem Dc:sH.Ok Tryz.prog:=⟨trivial,(And.intro Yu (And.intro DI (And.intro dZ (And.intro eL (And.intro EI trivial))))),trivial,trivial,(And.intro Hx trivial),(And.intro eF (And.intro dT trivial)),(And.intro oJ (And.intro oK trivial)),trivial⟩
theorem Y5(w:World)(f:Fq)(hv:Vl w f)(hG:FE w f)(ob:Nat)(oa:Option Addr)(oc n0:Nat)(oxs:List Value)(l:List Sg)(hP:Ec 93 96 ob (.slice oa n0 oc) oa oc n0 oxs w f)(hL:Di w f l oxs)(hf:∀b,Oj ob oa b→f b=0)(hn0:n0≤1000)(nms:List UInt8)(fs:List (List UInt8))(hfs:Lib.fields nms=fs)(hns:nms.length≤1000)(hasc:nms.all (fun c=>decide (c.toNat<128))=true)(hfl:fs.length≤1000)(k:Ty)(ka:Option Addr)(kc:Nat)(hk0:0<k.len)(hkl:k.len≤1000)(hkb:k.bnd)(hT:Ah w f k ka kc) :
  BF Tryz.prog 66 #[S nms,.slice ka k.len kc,.pointer (some ⟨ob,0,none⟩)] w (O0 (α:=Option Addr×Nat×List Value) (fun _=>.tuple #[]) (fun _=>True) (Oj ob oa) (fun x=>Oj ob x.1) (fun x=>Ec 93 96 ob (.slice x.1 (n0+fs.length) x.2.1) x.1 x.2.1 (n0+fs.length) x.2.2) (fun x=>[fun w f=>Di w f (l++fs.map (fun nm=>(nm,(k.len:Int)-1,HR k))) x.2.2]) w f):=by
 refine Dg (X:=⟨Oj ob oa,Oj ob oa,Ec 93 96 ob (.slice oa n0 oc) oa oc n0 oxs,w,f⟩) (H:=[]) (R:=[]) (B:=[]) (Fs:=[fun w f=>FE w f,fun w f=>Ah w f k ka kc,fun w f=>Di w f l oxs]) (f:=f) Tryz.func66 rfl rfl rfl (Zs (M:=Oj ob oa) hv hP Ec.stab (fun b hb=>⟨hP.lt hb,hf b hb⟩) ⟨hG,hT,hL,trivial⟩ ⟨FE.mono,Ah.mono,Di.mono,trivial⟩)<|go Dc 3 [] (fun _=>B8 rfl rfl (eC gO rfl rfl) (fun w f hM=>RF w f hM.vl hM.f0 nms oM hasc) (fun x=>⟨Y4.mono,trivial⟩) ?_)
 rintro⟨sa,sc⟩ -
 rw[hfs]
 refine go Dc 5 [] (fun _=>?_)
 refine H9 (α:=Nat×Option Addr×Nat×List Value) (fun x=>fs.length-x.1) (fun x=>x.1≤fs.length) (fun x=>(E5 1 (.slice ka k.len kc) 2 (.pointer (some ⟨ob,0,none⟩)) 8 (.slice sa fs.length sc) 9 (.int .i64 (fs.length:Int)) 10 (.int .i64 (x.1:Int)))) (fun x=>⟨Oj ob oa,Oj ob x.2.1,Ec 93 96 ob (.slice x.2.1 (n0+x.1) x.2.2.1) x.2.1 x.2.2.1 (n0+x.1) x.2.2.2,w,f⟩) (fun x=>[]) (fun x=>[]) (fun x=>[]) (fun x=>[fun w f=>Y4 w f fs sa sc,fun w f=>Ah w f k ka kc,fun w f=>Di w f (l++(fs.take x.1).map (fun nm=>(nm,(k.len:Int)-1,HR k))) x.2.2.2]) (0,oa,oc,oxs) (Nat.zero_le _) lE (fun w f hM=>(by have hM9:=hM.more (B':=[]) (F':=[fun w f=>Di w f (l++(fs.take 0).map (fun nm=>(nm,(k.len:Int)-1,HR k))) oxs]) nE (A1.mem ⟨by simpa using hM.f3,trivial⟩) (Af.mem ⟨Di.mono,trivial⟩);exact hM9.less sR sR nE (mR [1,3,0]))) ?_
 rintro⟨i,oa2,oc2,xs⟩ hi
 dsimp only at hi ⊢
 refine go Dc 6 [] (fun _=>AZ 11 rfl rfl (fun h1=>?_) (fun h1=>?_))
 refine go Dc 6 [] (fun _=>?_)
 have hil:i<fs.length:=by have:=of_decide_eq_true h1;omega
 obtain⟨nm,hx⟩:∃v,fs[i]?=some v:=⟨_,List.getElem?_eq_getElem hil⟩
 refine CB (α:=Nat) (fun x=>sa=some ⟨x,0,none⟩) (fun x=>[⟨x,0+i*1,[S nm]⟩]) (fun x=>[]) (fun w f hM=>let ⟨_,b,h1,h2⟩:=hM.f0;⟨b,h1,(fun e he=>by cases he with|head=>(rw[Nat.mul_one];exact Cs.at h2 (by rw[List.getElem?_map,hx];rfl))|tail _ h=>cases h),fun _ h=>by cases h⟩) (fun x=>Af.mem trivial) ?_
 rintro sb rfl
 refine go Dc 6 [100,0] (And.intro oM<|y2<|fun _=>Dj [] Ap (rd [1,2,3,4,5] (.br 0 (.br 6 (.rd 7 (.br 8 (.br 9 (.br 10 .fin .fin) .fin) .fin)) .fin) (.br 6 (.rd 7 (.br 0 (.br 8 (.br 9 (.br 10 .fin .fin) .fin) .fin) (.br 8 (.br 0 (.br 9 (.br 10 .fin .fin) .fin) .fin) .fin))) .fin))) rfl kR<|AA Dc 5 [] (And.intro ⟨oM,oM⟩<|fun _=>Ag rfl ?_ ?_))
 refine Fh rfl rfl (fun w f hM=>Al rfl MJ hM.res.blk rfl)<|go Dc 1 [] (fun _=>Ax [] rfl<|Ag rfl ?_ Ai)
 refine B8 rfl rfl (eC Qf rfl rfl) (fun w f hM=>MB w f hM.vl k ka kc hk0 oM hkb hM.f1) (fun x=>⟨Ah.mono,trivial⟩) ?_
 rintro⟨ta,tc⟩ -
 refine go Dc 1 [] (fun _=>Ax [] rfl<|AA Dc 1 [] (fun _=>Ag rfl ?_ Ai))
 refine go Dc 2 [] (fun b1=>fun _=>Ax [] rfl<|Ag rfl ?_ Ai)
 refine SC (MI':=Oj ob) (I':=fun a' c'=>Ec 93 96 ob (.slice oa2 (n0+i) oc2) a' c' (n0+i+1) (xs++pC (nm,(k.len:Int)-1,HR k) ta tc)) 0 rfl rfl Yh rfl rfl rfl rfl rfl rfl rfl oM oM (fun w f h=>h.row) (fun b h=>.inr h) (fun _ _ h=>Oj.or h) (fun w f w2 a2 c2 h hM hr hG=>h.app hr hG) (fun _ _=>Ec.stab) fun a2 c2=>go Dc 1 [] (fun _=>Ax [] rfl<|Ag rfl ?_ Ai)
 exact ZD (b:=ob) (I':=Ec 93 96 ob (.slice a2 (n0+i+1) c2) a2 c2 (n0+i+1) (xs++pC (nm,(k.len:Int)-1,HR k) ta tc)) rfl rfl rfl rfl MJ rfl rfl rfl (.inl rfl) (fun w f h=>h.blk) (fun w f w2 h hM hC hb=>h.store hC hb) Ec.stab<|go Dc 1 [] (fun _=>Ax [] rfl<|B3<|go Dc 6 [] (And.intro ⟨oM,oM⟩<|fun _=>Eb ((i+1,a2,c2,xs++pC (nm,(k.len:Int)-1,HR k) ta tc)) (show fs.length-(i+1)<fs.length-i by omega) (show i+1≤_ by omega) lE (fun w f hM=>⟨_,(hM.more (B':=[]) (F':=[fun w f=>Di w f (l++(fs.take (i+1)).map (fun nm=>(nm,(k.len:Int)-1,HR k))) (xs++pC (nm,(k.len:Int)-1,HR k) ta tc)]) nE (A1.mem ⟨by rw[D2 hx,List.map_append,← List.append_assoc];exact Di.snoc (p:=(nm,(k.len:Int)-1,HR k)) hM.f0 hM.f3,trivial⟩) (Af.mem ⟨Di.mono,trivial⟩)).less (sD sZ) sR nE (mR [2,3,0])⟩)))
 refine Ag rfl ?_ Ai
 refine B8 rfl rfl (eC Qf rfl rfl) (fun w f hM=>MB w f hM.vl k ka kc hk0 oM hkb hM.f1) (fun x=>⟨Ah.mono,trivial⟩) ?_
 rintro⟨ta,tc⟩ -
 refine go Dc 1 [] (fun _=>Ax [] rfl<|AA Dc 1 [] (fun _=>Ag rfl ?_ ?_))
 refine Fh rfl rfl (fun w f hM=>Al rfl MJ hM.res.blk rfl)<|go Dc 1 [] (fun _=>Ax [] rfl<|Ag rfl ?_ Ai)
 refine go Dc 2 [] (fun b2=>fun _=>Ax [] rfl<|Ag rfl ?_ Ai)
 refine SC (MI':=Oj ob) (I':=fun a' c'=>Ec 93 96 ob (.slice oa2 (n0+i) oc2) a' c' (n0+i+1) (xs++pC (nm,(k.len:Int)-1,HR k) ta tc)) 0 rfl rfl Yh rfl rfl rfl rfl rfl rfl rfl oM oM (fun w f h=>h.row) (fun b h=>.inr h) (fun _ _ h=>Oj.or h) (fun w f w2 a2 c2 h hM hr hG=>h.app hr hG) (fun _ _=>Ec.stab) fun a2 c2=>go Dc 1 [] (fun _=>Ax [] rfl<|Ag rfl ?_ Ai)
 exact ZD (b:=ob) (I':=Ec 93 96 ob (.slice a2 (n0+i+1) c2) a2 c2 (n0+i+1) (xs++pC (nm,(k.len:Int)-1,HR k) ta tc)) rfl rfl rfl rfl MJ rfl rfl rfl (.inl rfl) (fun w f h=>h.blk) (fun w f w2 h hM hC hb=>h.store hC hb) Ec.stab<|go Dc 1 [] (fun _=>Ax [] rfl<|B3<|go Dc 6 [] (And.intro ⟨oM,oM⟩<|fun _=>Eb ((i+1,a2,c2,xs++pC (nm,(k.len:Int)-1,HR k) ta tc)) (show fs.length-(i+1)<fs.length-i by omega) (show i+1≤_ by omega) lE (fun w f hM=>⟨_,(hM.more (B':=[]) (F':=[fun w f=>Di w f (l++(fs.take (i+1)).map (fun nm=>(nm,(k.len:Int)-1,HR k))) (xs++pC (nm,(k.len:Int)-1,HR k) ta tc)]) nE (A1.mem ⟨by rw[D2 hx,List.map_append,← List.append_assoc];exact Di.snoc (p:=(nm,(k.len:Int)-1,HR k)) hM.f0 hM.f3,trivial⟩) (Af.mem ⟨Di.mono,trivial⟩)).less (sD sZ) sR nE (mR [2,3,0])⟩)))
 refine Ag rfl ?_ Ai
 refine go Dc 2 [] (fun b3=>fun _=>Ax [] rfl<|Ag rfl ?_ Ai)
 refine Fh rfl rfl (fun w f hM=>Al rfl MJ hM.res.blk rfl)<|go Dc 1 [] (fun _=>Ax [] rfl<|Ag rfl ?_ Ai)
 refine SC (MI':=Oj ob) (I':=fun a' c'=>Ec 93 96 ob (.slice oa2 (n0+i) oc2) a' c' (n0+i+1) (xs++pC (nm,(k.len:Int)-1,HR k) ta tc)) 0 rfl rfl Yh rfl rfl rfl rfl rfl rfl rfl oM oM (fun w f h=>h.row) (fun b h=>.inr h) (fun _ _ h=>Oj.or h) (fun w f w2 a2 c2 h hM hr hG=>h.app hr hG) (fun _ _=>Ec.stab) fun a2 c2=>go Dc 1 [] (fun _=>Ax [] rfl<|Ag rfl ?_ Ai)
 exact ZD (b:=ob) (I':=Ec 93 96 ob (.slice a2 (n0+i+1) c2) a2 c2 (n0+i+1) (xs++pC (nm,(k.len:Int)-1,HR k) ta tc)) rfl rfl rfl rfl MJ rfl rfl rfl (.inl rfl) (fun w f h=>h.blk) (fun w f w2 h hM hC hb=>h.store hC hb) Ec.stab<|go Dc 1 [] (fun _=>Ax [] rfl<|B3<|go Dc 6 [] (And.intro ⟨oM,oM⟩<|fun _=>Eb ((i+1,a2,c2,xs++pC (nm,(k.len:Int)-1,HR k) ta tc)) (show fs.length-(i+1)<fs.length-i by omega) (show i+1≤_ by omega) lE (fun w f hM=>⟨_,(hM.more (B':=[]) (F':=[fun w f=>Di w f (l++(fs.take (i+1)).map (fun nm=>(nm,(k.len:Int)-1,HR k))) (xs++pC (nm,(k.len:Int)-1,HR k) ta tc)]) nE (A1.mem ⟨by rw[D2 hx,List.map_append,← List.append_assoc];exact Di.snoc (p:=(nm,(k.len:Int)-1,HR k)) hM.f0 hM.f3,trivial⟩) (Af.mem ⟨Di.mono,trivial⟩)).less (sD sZ) sR nE (mR [2,3,0])⟩)))
 refine go Dc 3 [] (fun _=>Hc<|go Dc 1 [] (fun _=>?_))
 obtain rfl:i=fs.length:=by have:=of_decide_eq_false h1;omega
 exact aG (fun w f hM=>DT rfl) (fun w f hM=>⟨(oa2,oc2,xs),f,rfl,trivial,hM.exm,(fun b hb=>let ⟨h1,h2,h3⟩:=hM.mi b hb;h3.elim (fun h=>.inr ⟨h,h1,h2⟩) .inl),hM.res,⟨by have h9:=hM.f2;rw[List.take_length] at h9;exact h9,trivial⟩⟩)
def Q4:List Value:=[S [70,97,108,115,101],S [98,111,111,108],.int .i64 0,.int .i64 0,S [84,114,117,101],S [98,111,111,108],.int .i64 1,.int .i64 0,S [68,105,118],S [101,120,110],.int .i64 0,.int .i64 0,S [77,97,116,99,104],S [101,120,110],.int .i64 1,.int .i64 0,S [65,98,111,114,116],S [101,120,110],.int .i64 2,.int .i64 0,S [75,101,101,112],S [101,120,110],.int .i64 3,.int .i64 0,S [79,117,116],S [101,120,110],.int .i64 4,.int .i64 0,S [70,97,105,108],S [101,120,110],.int .i64 5,.int .i64 1]
theorem U3(w:World)(f:Fq)(hv:Vl w f)  :
  BF Tryz.prog 42 #[.slice none 0 0] w (BV (α:=Nat) (fun b=>.slice (some ⟨b,0,none⟩) 8 8) (fun _=>True) (fun b=>[fun w f=>Cs w f b 0 Q4]) w f):=by
 refine Dg (X:=X0 w f) (H:=[]) (R:=[]) (B:=[]) (Fs:=[]) (f:=f) Tryz.func42 rfl rfl rfl (C7 hv trivial trivial)<|go Dc 28 [] (fun b1=>fun _=>?_)
 refine H9 (α:=Unit) (fun x=>0) (fun x=>True) (fun x=>(E3 3 (.slice (some ⟨b1,0,none⟩) 8 8) 19 (.int .i64 ((0:Nat):Int)) 20 (.int .i64 0))) (fun x=>X0 w f) (fun x=>[⟨b1,Q4,89,true⟩]) (fun x=>[]) (fun x=>[]) (fun x=>[]) (()) trivial lE (fun w f hM=>hM) ?_
 rintro⟨⟩ -
 exact go Dc 9 [] (fun _=>Hc<|go Dc 9 [] (fun _=>Dl 0 rfl rfl<|AY (Dz rfl rfl) (fun w f hM=>⟨b1,f,rfl,trivial,hM.exm,⟨hM.b0,trivial⟩⟩)))
def sS:Ea:=⟨[],[(52,56,4)],[],[],[(56,true,4)],[(56,[.int .i64 0,.int .i64 0,.string ⟨#[]⟩,.slice none 0 0]),(93,[.slice none 0 0])],[],[]⟩
theorem AG:sS.Ok Tryz.prog:=⟨trivial,(And.intro DI trivial),trivial,trivial,(And.intro AJ trivial),(And.intro DD (And.intro nU trivial)),trivial,trivial⟩
abbrev rW:=Nat×Nat×Nat×Nat×(Option Addr×Nat)×(Option Addr×Nat)
abbrev Q3:=T1×Option Addr×Nat
abbrev qI:Q3:=(c0 bI,none,0)
abbrev qF:Q3:=(c0 bF,none,0)
abbrev qS:Q3:=(c0 bS,none,0)
abbrev qB:Q3:=(c0 bB,none,0)
abbrev qU:Q3:=(c0 bU,none,0)
abbrev qV:Q3:=(.var 1,none,0)
abbrev qR(a:Option Addr)(c:Nat):Q3:=(T1.con L7 (T1.var 1).one,a,c)
abbrev qP(a:Option Addr)(c:Nat):Q3:=(T1.con Dr (T1.var 1).one,a,c)
def pm(x:List UInt8)(l:List Q3):Sg:=(x,((SG l).len:Int)-1,HR (SG l))
theorem kI:(c0 bI).bnd:=Df dC
theorem kF:(c0 bF).bnd:=Df dC
theorem kS:(c0 bS).bnd:=Df dC
theorem kB:(c0 bB).bnd:=Df dC
theorem kU:(c0 bU).bnd:=Df dC
theorem kV:(T1.var 1).bnd:=B7 _
theorem qN{w:World}{f:Fq}:Ah w f .nil none 0:=Ah.nil _ _ _ _
def Tm:List Nat→Nat→Bool
 | [],_=>false
 |a::l,b=>bif Nat.beq a b then true else Tm l b
def sU(c:Bool)(d:Nat)(v:Value)(σ:Bo):Bo:=bif c then AL σ d v else σ
def sL{α:Type}(c:Bool)(e:α)(l:List α):List α:=bif c then e::l else l
def L4(b1 b2 b3 b4 b5 b6:Nat)(S:List Nat)(x:rW):Bo :=
 sU (Tm S 7) 8 (.pointer (some ⟨x.2.2.2.1,0,none⟩))<|sU (Tm S 6) 7 (.pointer (some ⟨x.2.2.1,0,none⟩))<|sU (Tm S 5) 22 (tV (T1.con Dr (T1.var 1).one) x.2.2.2.2.2.1 x.2.2.2.2.2.2)<|sU (Tm S 2) 19 (tV (T1.con L7 (T1.var 1).one) x.2.2.2.2.1.1 x.2.2.2.2.1.2) <|
 sU (Tm S 4) 21 (.slice (some ⟨x.2.1,0,none⟩) 1 1)<|sU (Tm S 1) 18 (.slice (some ⟨x.1,0,none⟩) 1 1)<|E8 1 (.pointer (some ⟨b1,0,none⟩)) 2 (.pointer (some ⟨b2,0,none⟩)) 3 (.pointer (some ⟨b3,0,none⟩)) 4 (.pointer (some ⟨b4,0,none⟩)) 5 (.pointer (some ⟨b5,0,none⟩)) 6 (.pointer (some ⟨b6,0,none⟩)) 17 (tV (.var 1) none 0) 20 (tV (.var 1) none 0)
def DW(b1 b2 b3 b4 b5 b6:Nat)(S:List Nat)(x:rW):List HB :=
 sL (Tm S 7) ⟨x.2.2.2.1,[.int .i64 0,.int .i64 0,.string ⟨#[]⟩,.slice none 0 0],56,true⟩<|sL (Tm S 6) ⟨x.2.2.1,[.int .i64 0,.int .i64 0,.string ⟨#[]⟩,.slice none 0 0],56,true⟩<|sL (Tm S 4&&!Tm S 5) ⟨x.2.1,tC (.var 1) none 0,56,true⟩<|sL (Tm S 1&&!Tm S 2) ⟨x.1,tC (.var 1) none 0,56,true⟩ [⟨b6,tC (.var 1) none 0,56,true⟩,⟨b5,tC (c0 bU) none 0,56,true⟩,⟨b4,tC (c0 bB) none 0,56,true⟩,⟨b3,tC (c0 bS) none 0,56,true⟩,⟨b2,tC (c0 bF) none 0,56,true⟩,⟨b1,tC (c0 bI) none 0,56,true⟩]
def f16(S:List Nat)(x:rW):List (World→Fq→Prop) :=
 sL (Tm S 5) (fun w f=>Ah w f (T1.var 1).one x.2.2.2.2.2.1 x.2.2.2.2.2.2)<|sL (Tm S 2) (fun w f=>Ah w f (T1.var 1).one x.2.2.2.2.1.1 x.2.2.2.2.1.2) [fun w f=>FE w f]
def Cp:List Sg:=[pm [43] [qI,qI,qI],pm [45] [qI,qI,qI],pm [42] [qI,qI,qI],pm [100,105,118] [qI,qI,qI],pm [109,111,100] [qI,qI,qI],pm [110,101,103] [qI,qI],pm [60] [qI,qI,qB],pm [60,61] [qI,qI,qB],pm [61] [qI,qI,qB],pm [102,43] [qF,qF,qF],pm [102,45] [qF,qF,qF],pm [102,42] [qF,qF,qF],pm [102,47] [qF,qF,qF],pm [102,115,113,114,116] [qF,qF],pm [102,110,101,103] [qF,qF],pm [102,60] [qF,qF,qB],pm [102,61] [qF,qF,qB],pm [102,97,104,101,97,100] [qF,qF,qB],pm [105,116,111,102] [qI,qF],pm [102,116,111,105] [qF,qI],pm [102,98,105,116,115] [qF,qS],pm [110,97,110] [qF],pm [105,110,102] [qF],pm [99,97,116] [qS,qS,qS],pm [108,101,110] [qS,qI],pm [111,114,100] [qS,qI],pm [97,116,111,105] [qS,qI],pm [115,117,98] [qS,qI,qI,qS],pm [115,61] [qS,qS,qB],pm [115,60] [qS,qS,qB],pm [105,116,111,97] [qI,qS],pm [99,104,114] [qI,qS],pm [112,114,105,110,116] [qS,qU],pm [114,101,97,100] [qU,qS],pm [114,101,102] [qV,(qR none 0)],pm [103,101,116] [(qR none 0),qV],pm [115,101,116] [(qR none 0),qV,qU],pm [110,101,119] [qV,(qP none 0)],pm [108,111,97,100] [(qP none 0),qV],pm [115,116,111,114,101] [(qP none 0),qV,qU]]
def Y6:List (T1×Option Addr×Nat)→Prop
 | []=>True
 |t::l=>t.1.bnd∧Y6 l
theorem Qc:∀{l:List (T1×Option Addr×Nat)},Y6 l→(SG l).bnd
 | [],_=>trivial
 |_::_,h=>T1.bnd_cons.2 ⟨h.1,Qc h.2⟩
theorem Ha{n:Nat}{Q:Bk}{ds:List Deferred}{M:Nat→Prop}{w0:World}{f0:Fq}{B:List FB}{F0:List (World→Fq→Prop)}{fs:List Fr}{σ:Bo}{H H':List HB}{all r:List Oper}{gg:Operand}{args:List Operand}{ts:Array TypeId}{ty T:TypeId}{pos:String}{af:Array Edge}{g:Option (Nat×Bool)}{d b ob n0 oc:Nat}{oa:Option Addr}{xs:List Value}{NM:List UInt8}(kb n1:Nat)(lst:List Q3)
  (hgv:ev σ gg=some (.func (.func 66) #[] [Value.pointer (some ⟨ob,0,none⟩)].toArray)) (hga:Jb σ args=some [S NM,.slice (some ⟨b,0,none⟩) lst.length lst.length]) (hg:gd all σ g=some true) (hd:Nat.blt d n=true) (hk:HM H kb=some ⟨b,lG lst,T,true⟩) (hs:Ll H kb=some H')
  (hG:∀w f H B,AX ⟨M,Oj ob oa,Ec 93 96 ob (.slice oa n0 oc) oa oc n0 xs,w0,f0⟩ w f H [] B ((fun w f=>Di w f (Cp.take n0) xs)::F0)→FE w f∧pG w f lst) (hbd:Y6 lst)
  (h:∀a c xs,AF Tryz.prog n Q ds ⟨M,Oj ob a,Ec 93 96 ob (.slice a n1 c) a c n1 xs,w0,f0⟩ [] B ((fun w f=>Di w f (Cp.take n1) xs)::F0) (.ops all r) fs (AL σ d (.tuple #[])) H')
  (hp:Cp.take n0++(Lib.fields NM).map (fun nm=>(nm,((SG lst).len:Int)-1,HR (SG lst)))=Cp.take n1:=by kernel_rfl) (hn:n0+(Lib.fields NM).length=n1:=by kernel_rfl)
  (hc:(Nat.ble n0 1000&&(Nat.ble NM.length 1000&&(NM.all (fun c=>decide (c.toNat<128))&&(Nat.ble (Lib.fields NM).length 1000&&(Nat.blt 0 lst.length&&Nat.ble lst.length 1000)))))=true:=by kernel_rfl) :
  AF Tryz.prog n Q ds ⟨M,Oj ob oa,Ec 93 96 ob (.slice oa n0 oc) oa oc n0 xs,w0,f0⟩ [] B ((fun w f=>Di w f (Cp.take n0) xs)::F0) (.ops all (⟨some d,.call {callee:=.value gg,args:=args.toArray,argTypes:=ts},ty,pos,af,g⟩::r)) fs σ H:=by
 simp only[Bool.and_eq_true] at hc
 obtain⟨h1,h2,h3,h4,h5,h6⟩:=hc
 have e:=P5 lst
 have h5':0<(SG lst).len:=by rw[e];exact Nat.le_of_ble_eq_true h5
 have h6':(SG lst).len≤1000:=by rw[e];exact Nat.le_of_ble_eq_true h6
 subst hn
 have he':∀w,SW.Enters Tryz.prog σ (.call {callee:=.value gg,args:=args.toArray,argTypes:=ts}) ty w 66 #[S NM,.slice (some ⟨b,0,none⟩) (SG lst).len lst.length,.pointer (some ⟨ob,0,none⟩)]:=by rw[e];exact fun _=>Uk gW hgv hga
 refine Dl kb hk hs<|B4 (fun w f=>Ah w f (SG lst) (some ⟨b,0,none⟩) lst.length) (fun w f hM=>Ds (hG w f _ _ hM).2 hM.b0) Ah.mono<|bG (XX:=fun _ _=>False) hg hd he' (fun w f hM=>(Y5 w f hM.vl (hG w f _ _ (hM.less sR sR (fun _ h=>h) (fun _ h=>.tail _ h))).1 ob oa oc n0 xs (Cp.take n0) hM.res hM.f1 hM.mz (Nat.le_of_ble_eq_true h1) NM (Lib.fields NM) rfl (Nat.le_of_ble_eq_true h2) h3 (Nat.le_of_ble_eq_true h4) (SG lst) (some ⟨b,0,none⟩) lst.length h5' h6' (Qc hbd) hM.f0).retP) (fun _=>Ec.stab) (fun _=>⟨Di.mono,trivial⟩) (fun _ _ _ _ _ h=>h.elim) ?_
 rintro⟨a,c,xs'⟩ -
 refine fun w f hM=>h a c xs' w f ?_
 rw[← hp]
 refine hM.less sR sR (fun e he=>.tail _ he) (fun φ hφ=>?_)
 rcases List.mem_cons.1 hφ with rfl|hφ
 · exact .head _
 · exact .tail _ (.tail _ (.tail _ hφ))
def RS:OT:=.br 9 .fin .fin
def I1:OT:=.br 8 RS .fin
def Ip:OT:=.br 5 I1 .fin
def Jw:OT:=.br 2 Ip .fin
def MC:OT:=.br 1 Jw .fin
def L1:OT:=.br 4 Ip .fin
def ME:OT:=.br 2 L1 (.br 4 Jw .fin)
def Tk:OT:=.br 1 ME (.br 4 MC .fin)
def LH:OT:=.br 6 I1 .fin
def Lu:OT:=.br 5 LH (.br 6 Ip .fin)
def My:OT:=.br 2 Lu (.br 6 Jw .fin)
def Us:OT:=.br 1 My (.br 6 MC .fin)
def Qg:OT:=.br 4 Lu (.br 6 L1 .fin)
def Ug:OT:=.br 2 Qg (.br 4 My (.br 6 ME .fin))
def cS:OT:=.br 1 Ug (.br 4 Us (.br 6 Tk .fin))
def LB:OT:=.br 7 I1 .fin
def KU:OT:=.br 5 LB (.br 7 Ip .fin)
def MD:OT:=.br 2 KU (.br 7 Jw .fin)
def T7:OT:=.br 1 MD (.br 7 MC .fin)
def Ql:OT:=.br 4 KU (.br 7 L1 .fin)
def Uj:OT:=.br 2 Ql (.br 4 MD (.br 7 ME .fin))
def dG:OT:=.br 1 Uj (.br 4 T7 (.br 7 Tk .fin))
def RX:OT:=.br 6 LB (.br 7 LH .fin)
def Px:OT:=.br 5 RX (.br 6 KU (.br 7 Lu .fin))
def TH:OT:=.br 2 Px (.br 6 MD (.br 7 My .fin))
def eH:OT:=.br 1 TH (.br 6 T7 (.br 7 Us .fin))
def XL:OT:=.br 4 Px (.br 6 Ql (.br 7 Qg .fin))
def eU:OT:=.br 2 XL (.br 4 TH (.br 6 Uj (.br 7 Ug .fin)))
def nC:OT:=.br 1 eU (.br 4 eH (.br 6 dG (.br 7 cS .fin)))
set_option maxHeartbeats 2000000 in
theorem U1(w:World)(f:Fq)(hv:Vl w f)(hG:FE w f) :
  BF Tryz.prog 43 #[] w (BV (α:=Option Addr×Nat) (fun x=>.slice x.1 Cp.length x.2) (fun _=>True) (fun x=>[fun w f=>Uz w f Cp x.1 x.2]) w f):=by
 refine Dg (X:=X0 w f) (H:=[]) (R:=[]) (B:=[]) (Fs:=[fun w f=>FE w f]) (f:=f) Tryz.func43 rfl rfl rfl (C7 hv ⟨hG,trivial⟩ ⟨FE.mono,trivial⟩)<|go AG 7 [] (fun _=>B8 rfl rfl (eC B5 rfl rfl) (fun w f hM=>Bx w f hM.vl [105,110,116]) (fun x=>trivial) ?_)
 rintro⟨⟩ -
 refine B8 rfl rfl (eC B5 rfl rfl) (fun w f hM=>Bx w f hM.vl [102,108,111,97,116]) (fun x=>trivial) ?_
 rintro⟨⟩ -
 refine B8 rfl rfl (eC B5 rfl rfl) (fun w f hM=>Bx w f hM.vl [115,116,114,105,110,103]) (fun x=>trivial) ?_
 rintro⟨⟩ -
 refine B8 rfl rfl (eC B5 rfl rfl) (fun w f hM=>Bx w f hM.vl [98,111,111,108]) (fun x=>trivial) ?_
 rintro⟨⟩ -
 refine B8 rfl rfl (eC B5 rfl rfl) (fun w f hM=>Bx w f hM.vl [117,110,105,116]) (fun x=>trivial) ?_
 rintro⟨⟩ -
 refine go AG 14 [4,3,2,1,0] (fun b1=>fun b2=>fun b3=>fun b4=>fun b5=>y<|y<|y<|y<|y<|fun _=>B8 rfl rfl (eC Hp rfl rfl) (fun w f hM=>Eg w f hM.vl 1) (fun x=>trivial) ?_)
 rintro⟨⟩ -
 refine go AG 5 [0] (fun b6=>y<|fun _=>?_)
 refine WA (α:=Nat×Nat×(Option Addr×Nat)×(Option Addr×Nat)) (fun x=>True) (fun x=>(E8 1 (.pointer (some ⟨b1,0,none⟩)) 2 (.pointer (some ⟨b2,0,none⟩)) 3 (.pointer (some ⟨b3,0,none⟩)) 4 (.pointer (some ⟨b4,0,none⟩)) 5 (.pointer (some ⟨b5,0,none⟩)) 6 (.pointer (some ⟨b6,0,none⟩)) 7 (.pointer (some ⟨x.1,0,none⟩)) 8 (.pointer (some ⟨x.2.1,0,none⟩)))) (fun x=>X0 w f) (fun x=>[⟨x.2.1,tC (T1.con Dr (T1.var 1).one) x.2.2.2.1 x.2.2.2.2,56,true⟩,⟨x.1,tC (T1.con L7 (T1.var 1).one) x.2.2.1.1 x.2.2.1.2,56,true⟩,⟨b6,tC (.var 1) none 0,56,true⟩,⟨b5,tC (c0 bU) none 0,56,true⟩,⟨b4,tC (c0 bB) none 0,56,true⟩,⟨b3,tC (c0 bS) none 0,56,true⟩,⟨b2,tC (c0 bF) none 0,56,true⟩,⟨b1,tC (c0 bI) none 0,56,true⟩]) (fun x=>[]) (fun x=>[]) (fun x=>[fun w f=>Ah w f (T1.var 1).one x.2.2.2.1 x.2.2.2.2,fun w f=>Ah w f (T1.var 1).one x.2.2.1.1 x.2.2.1.2,fun w f=>FE w f]) ?_ ?_
 refine Dj [0,1,2,3,4,5] Ap (.rd 0 (.rd 3 nC)) rfl kR<|AA AG 2 [0,0] (y<|y<|fun _=>L3 I1 (L4 b1 b2 b3 b4 b5 b6 [1,2,4,5,6,7]) (DW b1 b2 b3 b4 b5 b6 [1,2,4,5,6,7]) (fun _=>[]) (f16 [1,2,4,5,6,7]) ?_ (fun hS124567=>?_))
 ·
  rintro⟨b18,b21,b7,b8,⟨ra,rc⟩,⟨pa,pc⟩⟩
  refine Ag rfl ?_ Ai
  refine go AG 2 [1] (y<|fun _=>Ax [2,3,4,5,6,7] rfl<|Ag rfl ?_ Ai)
  exact go AG 2 [0] (y<|fun _=>Ax [2,3,4,5,6,7] rfl<|B3<|L2 (b7,b8,(ra,rc),(pa,pc)) trivial lE (fun w f hM=>⟨f,hM⟩))
 refine L3 LH (L4 b1 b2 b3 b4 b5 b6 [1,2,4,5,7]) (DW b1 b2 b3 b4 b5 b6 [1,2,4,5,7]) (fun _=>[]) (f16 [1,2,4,5,7]) ?_ (fun hS12457=>?_)
 ·
  rintro⟨b18,b21,b7,b8,⟨ra,rc⟩,⟨pa,pc⟩⟩
  refine Ag rfl ?_ Ai
  exact go AG 2 [] (fun q=>fun _=>Ax [2,3,4,5,6,7] rfl<|Ft hS124567 (b18,b21,q,b8,(ra,rc),(pa,pc)) lE (fun w f hM=>hM.perm (List.perm_middle (l₁:=[_]))))
 refine L3 LB (L4 b1 b2 b3 b4 b5 b6 [1,2,4,5,6]) (DW b1 b2 b3 b4 b5 b6 [1,2,4,5,6]) (fun _=>[]) (f16 [1,2,4,5,6]) ?_ (fun hS12456=>?_)
 ·
  rintro⟨b18,b21,b7,b8,⟨ra,rc⟩,⟨pa,pc⟩⟩
  refine Ag rfl ?_ Ai
  exact go AG 2 [] (fun q=>fun _=>Ax [2,3,4,5,6,7] rfl<|Ft hS124567 (b18,b21,b7,q,(ra,rc),(pa,pc)) lE (fun w f hM=>hM))
 refine L3 Ip (L4 b1 b2 b3 b4 b5 b6 [1,2,4,6,7]) (DW b1 b2 b3 b4 b5 b6 [1,2,4,6,7]) (fun _=>[]) (f16 [1,2,4,6,7]) ?_ (fun hS12467=>?_)
 ·
  rintro⟨b18,b21,b7,b8,⟨ra,rc⟩,⟨pa,pc⟩⟩
  refine Ag rfl ?_ Ai
  refine Dl 2 rfl rfl<|B4 (fun w f=>Ah w f (T1.var 1).one (some ⟨b21,0,none⟩) 1) (fun w f hM=>Ds (l:=[(.var 1,none,0)]) ⟨Ah.nil _ _ _ _,trivial⟩ hM.b0) Ah.mono<|B8 rfl rfl (eC B5 rfl rfl) (fun w f hM=>CU w f hM.vl Dr (T1.var 1).one (some ⟨b21,0,none⟩) 1 dC hM.f0) (fun _=>⟨Ah.mono,trivial⟩) ?_
  rintro⟨qa,qc⟩ -
  exact go AG 1 [] (fun _=>Bh [2,3,4,5,6,7] Fu rfl (fun _ h=>.tail _ h)<|Ft hS124567 (b18,b21,b7,b8,(ra,rc),(qa,qc)) lE (fun w f hM=>hM.less sR sR nE (mR [0,2,3])))
 refine L3 Lu (L4 b1 b2 b3 b4 b5 b6 [1,2,4,7]) (DW b1 b2 b3 b4 b5 b6 [1,2,4,7]) (fun _=>[]) (f16 [1,2,4,7]) ?_ (fun hS1247=>?_)
 ·
  rintro⟨b18,b21,b7,b8,⟨ra,rc⟩,⟨pa,pc⟩⟩
  refine Ag rfl ?_ ?_
  refine Dl 1 rfl rfl<|B4 (fun w f=>Ah w f (T1.var 1).one (some ⟨b21,0,none⟩) 1) (fun w f hM=>Ds (l:=[(.var 1,none,0)]) ⟨Ah.nil _ _ _ _,trivial⟩ hM.b0) Ah.mono<|B8 rfl rfl (eC B5 rfl rfl) (fun w f hM=>CU w f hM.vl Dr (T1.var 1).one (some ⟨b21,0,none⟩) 1 dC hM.f0) (fun _=>⟨Ah.mono,trivial⟩) ?_
  rintro⟨qa,qc⟩ -
  exact go AG 1 [] (fun _=>Bh [1,2,3,4,5,6] Fu rfl (fun _ h=>.tail _ h)<|Ft hS12457 (b18,b21,b7,b8,(ra,rc),(qa,qc)) lE (fun w f hM=>hM.less sR sR nE (mR [0,2,3])))
  refine Ag rfl ?_ Ai
  exact go AG 2 [] (fun q=>fun _=>Ax [3,4,5,6,7,8] rfl<|Ft hS12467 (b18,b21,q,b8,(ra,rc),(pa,pc)) lE (fun w f hM=>hM.perm (List.perm_middle (l₁:=[_]))))
 refine L3 L1 (L4 b1 b2 b3 b4 b5 b6 [1,2,6,7]) (DW b1 b2 b3 b4 b5 b6 [1,2,6,7]) (fun _=>[]) (f16 [1,2,6,7]) ?_ (fun hS1267=>?_)
 ·
  rintro⟨b18,b21,b7,b8,⟨ra,rc⟩,⟨pa,pc⟩⟩
  refine Ag rfl ?_ Ai
  exact go AG 2 [] (fun q=>fun _=>Ax [3,4,5,6,7,8] rfl<|Ft hS12467 (b18,q,b7,b8,(ra,rc),(pa,pc)) lE (fun w f hM=>hM.perm (List.perm_middle (l₁:=[_,_]))))
 refine L3 KU (L4 b1 b2 b3 b4 b5 b6 [1,2,4,6]) (DW b1 b2 b3 b4 b5 b6 [1,2,4,6]) (fun _=>[]) (f16 [1,2,4,6]) ?_ (fun hS1246=>?_)
 ·
  rintro⟨b18,b21,b7,b8,⟨ra,rc⟩,⟨pa,pc⟩⟩
  refine Ag rfl ?_ ?_
  refine Dl 1 rfl rfl<|B4 (fun w f=>Ah w f (T1.var 1).one (some ⟨b21,0,none⟩) 1) (fun w f hM=>Ds (l:=[(.var 1,none,0)]) ⟨Ah.nil _ _ _ _,trivial⟩ hM.b0) Ah.mono<|B8 rfl rfl (eC B5 rfl rfl) (fun w f hM=>CU w f hM.vl Dr (T1.var 1).one (some ⟨b21,0,none⟩) 1 dC hM.f0) (fun _=>⟨Ah.mono,trivial⟩) ?_
  rintro⟨qa,qc⟩ -
  exact go AG 1 [] (fun _=>Bh [1,2,3,4,5,6] Fu rfl (fun _ h=>.tail _ h)<|Ft hS12456 (b18,b21,b7,b8,(ra,rc),(qa,qc)) lE (fun w f hM=>hM.less sR sR nE (mR [0,2,3])))
  refine Ag rfl ?_ Ai
  exact go AG 2 [] (fun q=>fun _=>Ax [3,4,5,6,7,8] rfl<|Ft hS12467 (b18,b21,b7,q,(ra,rc),(pa,pc)) lE (fun w f hM=>hM))
 refine L3 RX (L4 b1 b2 b3 b4 b5 b6 [1,2,4,5]) (DW b1 b2 b3 b4 b5 b6 [1,2,4,5]) (fun _=>[]) (f16 [1,2,4,5]) ?_ (fun hS1245=>?_)
 ·
  rintro⟨b18,b21,b7,b8,⟨ra,rc⟩,⟨pa,pc⟩⟩
  refine Ag rfl ?_ ?_
  exact go AG 2 [] (fun q=>fun _=>Ax [1,2,3,4,5,6] rfl<|Ft hS12456 (b18,b21,q,b8,(ra,rc),(pa,pc)) lE (fun w f hM=>hM))
  refine Ag rfl ?_ Ai
  exact go AG 2 [] (fun q=>fun _=>Ax [1,2,3,4,5,6] rfl<|Ft hS12457 (b18,b21,b7,q,(ra,rc),(pa,pc)) lE (fun w f hM=>hM))
 refine L3 Jw (L4 b1 b2 b3 b4 b5 b6 [1,4,6,7]) (DW b1 b2 b3 b4 b5 b6 [1,4,6,7]) (fun _=>[]) (f16 [1,4,6,7]) ?_ (fun hS1467=>?_)
 ·
  rintro⟨b18,b21,b7,b8,⟨ra,rc⟩,⟨pa,pc⟩⟩
  refine Ag rfl ?_ Ai
  refine Dl 3 rfl rfl<|B4 (fun w f=>Ah w f (T1.var 1).one (some ⟨b18,0,none⟩) 1) (fun w f hM=>Ds (l:=[(.var 1,none,0)]) ⟨Ah.nil _ _ _ _,trivial⟩ hM.b0) Ah.mono<|B8 rfl rfl (eC B5 rfl rfl) (fun w f hM=>CU w f hM.vl L7 (T1.var 1).one (some ⟨b18,0,none⟩) 1 dC hM.f0) (fun _=>⟨Ah.mono,trivial⟩) ?_
  rintro⟨qa,qc⟩ -
  exact go AG 1 [] (fun _=>Bh [3,4,5,6,7,8] Fu rfl (fun _ h=>.tail _ h)<|Ft hS12467 (b18,b21,b7,b8,(qa,qc),(pa,pc)) lE (fun w f hM=>hM.less sR sR nE (mR [0,2])))
 refine L3 MD (L4 b1 b2 b3 b4 b5 b6 [1,4,6]) (DW b1 b2 b3 b4 b5 b6 [1,4,6]) (fun _=>[]) (f16 [1,4,6]) ?_ (fun hS146=>?_)
 ·
  rintro⟨b18,b21,b7,b8,⟨ra,rc⟩,⟨pa,pc⟩⟩
  refine Ag rfl ?_ ?_
  refine Dl 2 rfl rfl<|B4 (fun w f=>Ah w f (T1.var 1).one (some ⟨b18,0,none⟩) 1) (fun w f hM=>Ds (l:=[(.var 1,none,0)]) ⟨Ah.nil _ _ _ _,trivial⟩ hM.b0) Ah.mono<|B8 rfl rfl (eC B5 rfl rfl) (fun w f hM=>CU w f hM.vl L7 (T1.var 1).one (some ⟨b18,0,none⟩) 1 dC hM.f0) (fun _=>⟨Ah.mono,trivial⟩) ?_
  rintro⟨qa,qc⟩ -
  exact go AG 1 [] (fun _=>Bh [2,3,4,5,6,7] Fu rfl (fun _ h=>.tail _ h)<|Ft hS1246 (b18,b21,b7,b8,(qa,qc),(pa,pc)) lE (fun w f hM=>hM.less sR sR nE (mR [0,2])))
  refine Ag rfl ?_ Ai
  exact go AG 2 [] (fun q=>fun _=>Ax [4,5,6,7,8,9] rfl<|Ft hS1467 (b18,b21,b7,q,(ra,rc),(pa,pc)) lE (fun w f hM=>hM))
 refine L3 My (L4 b1 b2 b3 b4 b5 b6 [1,4,7]) (DW b1 b2 b3 b4 b5 b6 [1,4,7]) (fun _=>[]) (f16 [1,4,7]) ?_ (fun hS147=>?_)
 ·
  rintro⟨b18,b21,b7,b8,⟨ra,rc⟩,⟨pa,pc⟩⟩
  refine Ag rfl ?_ ?_
  refine Dl 2 rfl rfl<|B4 (fun w f=>Ah w f (T1.var 1).one (some ⟨b18,0,none⟩) 1) (fun w f hM=>Ds (l:=[(.var 1,none,0)]) ⟨Ah.nil _ _ _ _,trivial⟩ hM.b0) Ah.mono<|B8 rfl rfl (eC B5 rfl rfl) (fun w f hM=>CU w f hM.vl L7 (T1.var 1).one (some ⟨b18,0,none⟩) 1 dC hM.f0) (fun _=>⟨Ah.mono,trivial⟩) ?_
  rintro⟨qa,qc⟩ -
  exact go AG 1 [] (fun _=>Bh [2,3,4,5,6,7] Fu rfl (fun _ h=>.tail _ h)<|Ft hS1247 (b18,b21,b7,b8,(qa,qc),(pa,pc)) lE (fun w f hM=>hM.less sR sR nE (mR [0,2])))
  refine Ag rfl ?_ Ai
  exact go AG 2 [] (fun q=>fun _=>Ax [4,5,6,7,8,9] rfl<|Ft hS1467 (b18,b21,q,b8,(ra,rc),(pa,pc)) lE (fun w f hM=>hM.perm (List.perm_middle (l₁:=[_]))))
 refine L3 Qg (L4 b1 b2 b3 b4 b5 b6 [1,2,7]) (DW b1 b2 b3 b4 b5 b6 [1,2,7]) (fun _=>[]) (f16 [1,2,7]) ?_ (fun hS127=>?_)
 ·
  rintro⟨b18,b21,b7,b8,⟨ra,rc⟩,⟨pa,pc⟩⟩
  refine Ag rfl ?_ ?_
  exact go AG 2 [] (fun q=>fun _=>Ax [2,3,4,5,6,7] rfl<|Ft hS1247 (b18,q,b7,b8,(ra,rc),(pa,pc)) lE (fun w f hM=>hM.perm (List.perm_middle (l₁:=[_]))))
  refine Ag rfl ?_ Ai
  exact go AG 2 [] (fun q=>fun _=>Ax [2,3,4,5,6,7] rfl<|Ft hS1267 (b18,b21,q,b8,(ra,rc),(pa,pc)) lE (fun w f hM=>hM.perm (List.perm_middle (l₁:=[_]))))
 refine L3 ME (L4 b1 b2 b3 b4 b5 b6 [1,6,7]) (DW b1 b2 b3 b4 b5 b6 [1,6,7]) (fun _=>[]) (f16 [1,6,7]) ?_ (fun hS167=>?_)
 ·
  rintro⟨b18,b21,b7,b8,⟨ra,rc⟩,⟨pa,pc⟩⟩
  refine Ag rfl ?_ ?_
  refine Dl 2 rfl rfl<|B4 (fun w f=>Ah w f (T1.var 1).one (some ⟨b18,0,none⟩) 1) (fun w f hM=>Ds (l:=[(.var 1,none,0)]) ⟨Ah.nil _ _ _ _,trivial⟩ hM.b0) Ah.mono<|B8 rfl rfl (eC B5 rfl rfl) (fun w f hM=>CU w f hM.vl L7 (T1.var 1).one (some ⟨b18,0,none⟩) 1 dC hM.f0) (fun _=>⟨Ah.mono,trivial⟩) ?_
  rintro⟨qa,qc⟩ -
  exact go AG 1 [] (fun _=>Bh [2,3,4,5,6,7] Fu rfl (fun _ h=>.tail _ h)<|Ft hS1267 (b18,b21,b7,b8,(qa,qc),(pa,pc)) lE (fun w f hM=>hM.less sR sR nE (mR [0,2])))
  refine Ag rfl ?_ Ai
  exact go AG 2 [] (fun q=>fun _=>Ax [4,5,6,7,8,9] rfl<|Ft hS1467 (b18,q,b7,b8,(ra,rc),(pa,pc)) lE (fun w f hM=>hM.perm (List.perm_middle (l₁:=[_,_]))))
 refine L3 Ql (L4 b1 b2 b3 b4 b5 b6 [1,2,6]) (DW b1 b2 b3 b4 b5 b6 [1,2,6]) (fun _=>[]) (f16 [1,2,6]) ?_ (fun hS126=>?_)
 ·
  rintro⟨b18,b21,b7,b8,⟨ra,rc⟩,⟨pa,pc⟩⟩
  refine Ag rfl ?_ ?_
  exact go AG 2 [] (fun q=>fun _=>Ax [2,3,4,5,6,7] rfl<|Ft hS1246 (b18,q,b7,b8,(ra,rc),(pa,pc)) lE (fun w f hM=>hM.perm (List.perm_middle (l₁:=[_]))))
  refine Ag rfl ?_ Ai
  exact go AG 2 [] (fun q=>fun _=>Ax [2,3,4,5,6,7] rfl<|Ft hS1267 (b18,b21,b7,q,(ra,rc),(pa,pc)) lE (fun w f hM=>hM))
 refine L3 MC (L4 b1 b2 b3 b4 b5 b6 [4,6,7]) (DW b1 b2 b3 b4 b5 b6 [4,6,7]) (fun _=>[]) (f16 [4,6,7]) ?_ (fun hS467=>?_)
 ·
  rintro⟨b18,b21,b7,b8,⟨ra,rc⟩,⟨pa,pc⟩⟩
  refine Ag rfl ?_ Ai
  exact go AG 2 [] (fun q=>fun _=>Ax [4,5,6,7,8,9] rfl<|Ft hS1467 (q,b21,b7,b8,(ra,rc),(pa,pc)) lE (fun w f hM=>hM.perm (List.perm_middle (l₁:=[_,_,_]))))
 refine L3 Px (L4 b1 b2 b3 b4 b5 b6 [1,2,4]) (DW b1 b2 b3 b4 b5 b6 [1,2,4]) (fun _=>[]) (f16 [1,2,4]) ?_ (fun hS124=>?_)
 ·
  rintro⟨b18,b21,b7,b8,⟨ra,rc⟩,⟨pa,pc⟩⟩
  refine Ag rfl ?_ ?_
  refine Dl 0 rfl rfl<|B4 (fun w f=>Ah w f (T1.var 1).one (some ⟨b21,0,none⟩) 1) (fun w f hM=>Ds (l:=[(.var 1,none,0)]) ⟨Ah.nil _ _ _ _,trivial⟩ hM.b0) Ah.mono<|B8 rfl rfl (eC B5 rfl rfl) (fun w f hM=>CU w f hM.vl Dr (T1.var 1).one (some ⟨b21,0,none⟩) 1 dC hM.f0) (fun _=>⟨Ah.mono,trivial⟩) ?_
  rintro⟨qa,qc⟩ -
  exact go AG 1 [] (fun _=>Bh [0,1,2,3,4,5] Fu rfl (fun _ h=>.tail _ h)<|Ft hS1245 (b18,b21,b7,b8,(ra,rc),(qa,qc)) lE (fun w f hM=>hM.less sR sR nE (mR [0,2,3])))
  refine Ag rfl ?_ ?_
  exact go AG 2 [] (fun q=>fun _=>Ax [2,3,4,5,6,7] rfl<|Ft hS1246 (b18,b21,q,b8,(ra,rc),(pa,pc)) lE (fun w f hM=>hM))
  refine Ag rfl ?_ Ai
  exact go AG 2 [] (fun q=>fun _=>Ax [2,3,4,5,6,7] rfl<|Ft hS1247 (b18,b21,b7,q,(ra,rc),(pa,pc)) lE (fun w f hM=>hM))
 refine L3 TH (L4 b1 b2 b3 b4 b5 b6 [1,4]) (DW b1 b2 b3 b4 b5 b6 [1,4]) (fun _=>[]) (f16 [1,4]) ?_ (fun hS14=>?_)
 ·
  rintro⟨b18,b21,b7,b8,⟨ra,rc⟩,⟨pa,pc⟩⟩
  refine Ag rfl ?_ ?_
  refine Dl 1 rfl rfl<|B4 (fun w f=>Ah w f (T1.var 1).one (some ⟨b18,0,none⟩) 1) (fun w f hM=>Ds (l:=[(.var 1,none,0)]) ⟨Ah.nil _ _ _ _,trivial⟩ hM.b0) Ah.mono<|B8 rfl rfl (eC B5 rfl rfl) (fun w f hM=>CU w f hM.vl L7 (T1.var 1).one (some ⟨b18,0,none⟩) 1 dC hM.f0) (fun _=>⟨Ah.mono,trivial⟩) ?_
  rintro⟨qa,qc⟩ -
  exact go AG 1 [] (fun _=>Bh [1,2,3,4,5,6] Fu rfl (fun _ h=>.tail _ h)<|Ft hS124 (b18,b21,b7,b8,(qa,qc),(pa,pc)) lE (fun w f hM=>hM.less sR sR nE (mR [0,2])))
  refine Ag rfl ?_ ?_
  exact go AG 2 [] (fun q=>fun _=>Ax [3,4,5,6,7,8] rfl<|Ft hS146 (b18,b21,q,b8,(ra,rc),(pa,pc)) lE (fun w f hM=>hM))
  refine Ag rfl ?_ Ai
  exact go AG 2 [] (fun q=>fun _=>Ax [3,4,5,6,7,8] rfl<|Ft hS147 (b18,b21,b7,q,(ra,rc),(pa,pc)) lE (fun w f hM=>hM))
 refine L3 T7 (L4 b1 b2 b3 b4 b5 b6 [4,6]) (DW b1 b2 b3 b4 b5 b6 [4,6]) (fun _=>[]) (f16 [4,6]) ?_ (fun hS46=>?_)
 ·
  rintro⟨b18,b21,b7,b8,⟨ra,rc⟩,⟨pa,pc⟩⟩
  refine Ag rfl ?_ ?_
  exact go AG 2 [] (fun q=>fun _=>Ax [3,4,5,6,7,8] rfl<|Ft hS146 (q,b21,b7,b8,(ra,rc),(pa,pc)) lE (fun w f hM=>hM.perm (List.perm_middle (l₁:=[_,_]))))
  refine Ag rfl ?_ Ai
  exact go AG 2 [] (fun q=>fun _=>Ax [3,4,5,6,7,8] rfl<|Ft hS467 (b18,b21,b7,q,(ra,rc),(pa,pc)) lE (fun w f hM=>hM))
 refine L3 Ug (L4 b1 b2 b3 b4 b5 b6 [1,7]) (DW b1 b2 b3 b4 b5 b6 [1,7]) (fun _=>[]) (f16 [1,7]) ?_ (fun hS17=>?_)
 ·
  rintro⟨b18,b21,b7,b8,⟨ra,rc⟩,⟨pa,pc⟩⟩
  refine Ag rfl ?_ ?_
  refine Dl 1 rfl rfl<|B4 (fun w f=>Ah w f (T1.var 1).one (some ⟨b18,0,none⟩) 1) (fun w f hM=>Ds (l:=[(.var 1,none,0)]) ⟨Ah.nil _ _ _ _,trivial⟩ hM.b0) Ah.mono<|B8 rfl rfl (eC B5 rfl rfl) (fun w f hM=>CU w f hM.vl L7 (T1.var 1).one (some ⟨b18,0,none⟩) 1 dC hM.f0) (fun _=>⟨Ah.mono,trivial⟩) ?_
  rintro⟨qa,qc⟩ -
  exact go AG 1 [] (fun _=>Bh [1,2,3,4,5,6] Fu rfl (fun _ h=>.tail _ h)<|Ft hS127 (b18,b21,b7,b8,(qa,qc),(pa,pc)) lE (fun w f hM=>hM.less sR sR nE (mR [0,2])))
  refine Ag rfl ?_ ?_
  exact go AG 2 [] (fun q=>fun _=>Ax [3,4,5,6,7,8] rfl<|Ft hS147 (b18,q,b7,b8,(ra,rc),(pa,pc)) lE (fun w f hM=>hM.perm (List.perm_middle (l₁:=[_]))))
  refine Ag rfl ?_ Ai
  exact go AG 2 [] (fun q=>fun _=>Ax [3,4,5,6,7,8] rfl<|Ft hS167 (b18,b21,q,b8,(ra,rc),(pa,pc)) lE (fun w f hM=>hM.perm (List.perm_middle (l₁:=[_]))))
 refine L3 Uj (L4 b1 b2 b3 b4 b5 b6 [1,6]) (DW b1 b2 b3 b4 b5 b6 [1,6]) (fun _=>[]) (f16 [1,6]) ?_ (fun hS16=>?_)
 ·
  rintro⟨b18,b21,b7,b8,⟨ra,rc⟩,⟨pa,pc⟩⟩
  refine Ag rfl ?_ ?_
  refine Dl 1 rfl rfl<|B4 (fun w f=>Ah w f (T1.var 1).one (some ⟨b18,0,none⟩) 1) (fun w f hM=>Ds (l:=[(.var 1,none,0)]) ⟨Ah.nil _ _ _ _,trivial⟩ hM.b0) Ah.mono<|B8 rfl rfl (eC B5 rfl rfl) (fun w f hM=>CU w f hM.vl L7 (T1.var 1).one (some ⟨b18,0,none⟩) 1 dC hM.f0) (fun _=>⟨Ah.mono,trivial⟩) ?_
  rintro⟨qa,qc⟩ -
  exact go AG 1 [] (fun _=>Bh [1,2,3,4,5,6] Fu rfl (fun _ h=>.tail _ h)<|Ft hS126 (b18,b21,b7,b8,(qa,qc),(pa,pc)) lE (fun w f hM=>hM.less sR sR nE (mR [0,2])))
  refine Ag rfl ?_ ?_
  exact go AG 2 [] (fun q=>fun _=>Ax [3,4,5,6,7,8] rfl<|Ft hS146 (b18,q,b7,b8,(ra,rc),(pa,pc)) lE (fun w f hM=>hM.perm (List.perm_middle (l₁:=[_]))))
  refine Ag rfl ?_ Ai
  exact go AG 2 [] (fun q=>fun _=>Ax [3,4,5,6,7,8] rfl<|Ft hS167 (b18,b21,b7,q,(ra,rc),(pa,pc)) lE (fun w f hM=>hM))
 refine L3 Us (L4 b1 b2 b3 b4 b5 b6 [4,7]) (DW b1 b2 b3 b4 b5 b6 [4,7]) (fun _=>[]) (f16 [4,7]) ?_ (fun hS47=>?_)
 ·
  rintro⟨b18,b21,b7,b8,⟨ra,rc⟩,⟨pa,pc⟩⟩
  refine Ag rfl ?_ ?_
  exact go AG 2 [] (fun q=>fun _=>Ax [3,4,5,6,7,8] rfl<|Ft hS147 (q,b21,b7,b8,(ra,rc),(pa,pc)) lE (fun w f hM=>hM.perm (List.perm_middle (l₁:=[_,_]))))
  refine Ag rfl ?_ Ai
  exact go AG 2 [] (fun q=>fun _=>Ax [3,4,5,6,7,8] rfl<|Ft hS467 (b18,b21,q,b8,(ra,rc),(pa,pc)) lE (fun w f hM=>hM.perm (List.perm_middle (l₁:=[_]))))
 refine L3 Tk (L4 b1 b2 b3 b4 b5 b6 [6,7]) (DW b1 b2 b3 b4 b5 b6 [6,7]) (fun _=>[]) (f16 [6,7]) ?_ (fun hS67=>?_)
 ·
  rintro⟨b18,b21,b7,b8,⟨ra,rc⟩,⟨pa,pc⟩⟩
  refine Ag rfl ?_ ?_
  exact go AG 2 [] (fun q=>fun _=>Ax [3,4,5,6,7,8] rfl<|Ft hS167 (q,b21,b7,b8,(ra,rc),(pa,pc)) lE (fun w f hM=>hM.perm (List.perm_middle (l₁:=[_,_]))))
  refine Ag rfl ?_ Ai
  exact go AG 2 [] (fun q=>fun _=>Ax [3,4,5,6,7,8] rfl<|Ft hS467 (b18,q,b7,b8,(ra,rc),(pa,pc)) lE (fun w f hM=>hM.perm (List.perm_middle (l₁:=[_,_]))))
 refine L3 XL (L4 b1 b2 b3 b4 b5 b6 [1,2]) (DW b1 b2 b3 b4 b5 b6 [1,2]) (fun _=>[]) (f16 [1,2]) ?_ (fun hS12=>?_)
 ·
  rintro⟨b18,b21,b7,b8,⟨ra,rc⟩,⟨pa,pc⟩⟩
  refine Ag rfl ?_ ?_
  exact go AG 2 [] (fun q=>fun _=>Ax [1,2,3,4,5,6] rfl<|Ft hS124 (b18,q,b7,b8,(ra,rc),(pa,pc)) lE (fun w f hM=>hM))
  refine Ag rfl ?_ ?_
  exact go AG 2 [] (fun q=>fun _=>Ax [1,2,3,4,5,6] rfl<|Ft hS126 (b18,b21,q,b8,(ra,rc),(pa,pc)) lE (fun w f hM=>hM))
  refine Ag rfl ?_ Ai
  exact go AG 2 [] (fun q=>fun _=>Ax [1,2,3,4,5,6] rfl<|Ft hS127 (b18,b21,b7,q,(ra,rc),(pa,pc)) lE (fun w f hM=>hM))
 refine L3 eU (L4 b1 b2 b3 b4 b5 b6 [1]) (DW b1 b2 b3 b4 b5 b6 [1]) (fun _=>[]) (f16 [1]) ?_ (fun hS1=>?_)
 ·
  rintro⟨b18,b21,b7,b8,⟨ra,rc⟩,⟨pa,pc⟩⟩
  refine Ag rfl ?_ ?_
  refine Dl 0 rfl rfl<|B4 (fun w f=>Ah w f (T1.var 1).one (some ⟨b18,0,none⟩) 1) (fun w f hM=>Ds (l:=[(.var 1,none,0)]) ⟨Ah.nil _ _ _ _,trivial⟩ hM.b0) Ah.mono<|B8 rfl rfl (eC B5 rfl rfl) (fun w f hM=>CU w f hM.vl L7 (T1.var 1).one (some ⟨b18,0,none⟩) 1 dC hM.f0) (fun _=>⟨Ah.mono,trivial⟩) ?_
  rintro⟨qa,qc⟩ -
  exact go AG 1 [] (fun _=>Bh [0,1,2,3,4,5] Fu rfl (fun _ h=>.tail _ h)<|Ft hS12 (b18,b21,b7,b8,(qa,qc),(pa,pc)) lE (fun w f hM=>hM.less sR sR nE (mR [0,2])))
  refine Ag rfl ?_ ?_
  exact go AG 2 [] (fun q=>fun _=>Ax [2,3,4,5,6,7] rfl<|Ft hS14 (b18,q,b7,b8,(ra,rc),(pa,pc)) lE (fun w f hM=>hM))
  refine Ag rfl ?_ ?_
  exact go AG 2 [] (fun q=>fun _=>Ax [2,3,4,5,6,7] rfl<|Ft hS16 (b18,b21,q,b8,(ra,rc),(pa,pc)) lE (fun w f hM=>hM))
  refine Ag rfl ?_ Ai
  exact go AG 2 [] (fun q=>fun _=>Ax [2,3,4,5,6,7] rfl<|Ft hS17 (b18,b21,b7,q,(ra,rc),(pa,pc)) lE (fun w f hM=>hM))
 refine L3 eH (L4 b1 b2 b3 b4 b5 b6 [4]) (DW b1 b2 b3 b4 b5 b6 [4]) (fun _=>[]) (f16 [4]) ?_ (fun hS4=>?_)
 ·
  rintro⟨b18,b21,b7,b8,⟨ra,rc⟩,⟨pa,pc⟩⟩
  refine Ag rfl ?_ ?_
  exact go AG 2 [] (fun q=>fun _=>Ax [2,3,4,5,6,7] rfl<|Ft hS14 (q,b21,b7,b8,(ra,rc),(pa,pc)) lE (fun w f hM=>hM.perm (List.perm_middle (l₁:=[_]))))
  refine Ag rfl ?_ ?_
  exact go AG 2 [] (fun q=>fun _=>Ax [2,3,4,5,6,7] rfl<|Ft hS46 (b18,b21,q,b8,(ra,rc),(pa,pc)) lE (fun w f hM=>hM))
  refine Ag rfl ?_ Ai
  exact go AG 2 [] (fun q=>fun _=>Ax [2,3,4,5,6,7] rfl<|Ft hS47 (b18,b21,b7,q,(ra,rc),(pa,pc)) lE (fun w f hM=>hM))
 refine L3 cS (L4 b1 b2 b3 b4 b5 b6 [7]) (DW b1 b2 b3 b4 b5 b6 [7]) (fun _=>[]) (f16 [7]) ?_ (fun hS7=>?_)
 ·
  rintro⟨b18,b21,b7,b8,⟨ra,rc⟩,⟨pa,pc⟩⟩
  refine Ag rfl ?_ ?_
  exact go AG 2 [] (fun q=>fun _=>Ax [2,3,4,5,6,7] rfl<|Ft hS17 (q,b21,b7,b8,(ra,rc),(pa,pc)) lE (fun w f hM=>hM.perm (List.perm_middle (l₁:=[_]))))
  refine Ag rfl ?_ ?_
  exact go AG 2 [] (fun q=>fun _=>Ax [2,3,4,5,6,7] rfl<|Ft hS47 (b18,q,b7,b8,(ra,rc),(pa,pc)) lE (fun w f hM=>hM.perm (List.perm_middle (l₁:=[_]))))
  refine Ag rfl ?_ Ai
  exact go AG 2 [] (fun q=>fun _=>Ax [2,3,4,5,6,7] rfl<|Ft hS67 (b18,b21,q,b8,(ra,rc),(pa,pc)) lE (fun w f hM=>hM.perm (List.perm_middle (l₁:=[_]))))
 refine L3 dG (L4 b1 b2 b3 b4 b5 b6 [6]) (DW b1 b2 b3 b4 b5 b6 [6]) (fun _=>[]) (f16 [6]) ?_ (fun hS6=>?_)
 ·
  rintro⟨b18,b21,b7,b8,⟨ra,rc⟩,⟨pa,pc⟩⟩
  refine Ag rfl ?_ ?_
  exact go AG 2 [] (fun q=>fun _=>Ax [2,3,4,5,6,7] rfl<|Ft hS16 (q,b21,b7,b8,(ra,rc),(pa,pc)) lE (fun w f hM=>hM.perm (List.perm_middle (l₁:=[_]))))
  refine Ag rfl ?_ ?_
  exact go AG 2 [] (fun q=>fun _=>Ax [2,3,4,5,6,7] rfl<|Ft hS46 (b18,q,b7,b8,(ra,rc),(pa,pc)) lE (fun w f hM=>hM.perm (List.perm_middle (l₁:=[_]))))
  refine Ag rfl ?_ Ai
  exact go AG 2 [] (fun q=>fun _=>Ax [2,3,4,5,6,7] rfl<|Ft hS67 (b18,b21,b7,q,(ra,rc),(pa,pc)) lE (fun w f hM=>hM))
 refine L3 nC (L4 b1 b2 b3 b4 b5 b6 []) (DW b1 b2 b3 b4 b5 b6 []) (fun _=>[]) (f16 []) ?_ (fun hS=>?_)
 ·
  rintro⟨b18,b21,b7,b8,⟨ra,rc⟩,⟨pa,pc⟩⟩
  refine Ag rfl ?_ ?_
  exact go AG 2 [] (fun q=>fun _=>Ax [1,2,3,4,5,6] rfl<|Ft hS1 (q,b21,b7,b8,(ra,rc),(pa,pc)) lE (fun w f hM=>hM))
  refine Ag rfl ?_ ?_
  exact go AG 2 [] (fun q=>fun _=>Ax [1,2,3,4,5,6] rfl<|Ft hS4 (b18,q,b7,b8,(ra,rc),(pa,pc)) lE (fun w f hM=>hM))
  refine Ag rfl ?_ ?_
  exact go AG 2 [] (fun q=>fun _=>Ax [1,2,3,4,5,6] rfl<|Ft hS6 (b18,b21,q,b8,(ra,rc),(pa,pc)) lE (fun w f hM=>hM))
  refine Ag rfl ?_ Ai
  exact go AG 2 [] (fun q=>fun _=>Ax [1,2,3,4,5,6] rfl<|Ft hS7 (b18,b21,b7,q,(ra,rc),(pa,pc)) lE (fun w f hM=>hM))
 exact Ft hS (0,0,0,0,(none,0),(none,0)) lE (fun w f hM=>hM)
 rintro⟨b7,b8,⟨ra,rc⟩,⟨pa,pc⟩⟩ -
 dsimp only
 refine go AG 8 [] (fun b31=>fun _=>Fh rfl rfl (fun w f hM=>P8 rfl)<|go AG 4 [] (fun _=>mY 0 rfl rfl<|sX (Oj b31 none) (Ec 93 96 b31 (.slice none 0 0) none 0 0 []) (fun b h=>h.elim .inr fun h=>by cases h) (fun w f h=>⟨h.2,⟨rfl,.inl ⟨rfl,rfl,rfl⟩⟩,fun h=>by cases h⟩) Ec.stab<|B4 (fun w f=>Di w f [] []) (fun w f hM=>rfl) Di.mono<|go AG 6 [7,7,7] (y<|y<|y<|fun b32=>fun _=>Ha 0 5 [qI,qI,qI] rfl rfl rfl rfl rfl rfl (fun w f _ _ hM=>⟨hM.f3,⟨qN,⟨qN,⟨qN,trivial⟩⟩⟩⟩) ⟨kI,⟨kI,⟨kI,trivial⟩⟩⟩ fun a1 c1 xs1=>go AG 8 [7,7] (y<|y<|fun b33=>fun _=>Ha 0 6 [qI,qI] rfl rfl rfl rfl rfl rfl (fun w f _ _ hM=>⟨hM.f3,⟨qN,⟨qN,trivial⟩⟩⟩) ⟨kI,⟨kI,trivial⟩⟩ fun a2 c2 xs2=>?_))))
 refine go AG 9 [7,7,4] (y<|y<|y<|fun b34=>fun _=>Ha 0 9 [qI,qI,qB] rfl rfl rfl rfl rfl rfl (fun w f _ _ hM=>⟨hM.f3,⟨qN,⟨qN,⟨qN,trivial⟩⟩⟩⟩) ⟨kI,⟨kI,⟨kB,trivial⟩⟩⟩ fun a3 c3 xs3=>go AG 9 [6,6,6] (y<|y<|y<|fun b35=>fun _=>Ha 0 13 [qF,qF,qF] rfl rfl rfl rfl rfl rfl (fun w f _ _ hM=>⟨hM.f3,⟨qN,⟨qN,⟨qN,trivial⟩⟩⟩⟩) ⟨kF,⟨kF,⟨kF,trivial⟩⟩⟩ fun a4 c4 xs4=>go AG 8 [6,6] (y<|y<|fun b36=>fun _=>Ha 0 15 [qF,qF] rfl rfl rfl rfl rfl rfl (fun w f _ _ hM=>⟨hM.f3,⟨qN,⟨qN,trivial⟩⟩⟩) ⟨kF,⟨kF,trivial⟩⟩ fun a5 c5 xs5=>go AG 9 [6,6,4] (y<|y<|y<|fun b37=>fun _=>Ha 0 18 [qF,qF,qB] rfl rfl rfl rfl rfl rfl (fun w f _ _ hM=>⟨hM.f3,⟨qN,⟨qN,⟨qN,trivial⟩⟩⟩⟩) ⟨kF,⟨kF,⟨kB,trivial⟩⟩⟩ fun a6 c6 xs6=>go AG 8 [7,6] (y<|y<|fun b38=>fun _=>Ha 0 19 [qI,qF] rfl rfl rfl rfl rfl rfl (fun w f _ _ hM=>⟨hM.f3,⟨qN,⟨qN,trivial⟩⟩⟩) ⟨kI,⟨kF,trivial⟩⟩ fun a7 c7 xs7=>?_)))))
 refine go AG 8 [6,7] (y<|y<|fun b39=>fun _=>Ha 0 20 [qF,qI] rfl rfl rfl rfl rfl rfl (fun w f _ _ hM=>⟨hM.f3,⟨qN,⟨qN,trivial⟩⟩⟩) ⟨kF,⟨kI,trivial⟩⟩ fun a8 c8 xs8=>go AG 8 [6,5] (y<|y<|fun b40=>fun _=>Ha 0 21 [qF,qS] rfl rfl rfl rfl rfl rfl (fun w f _ _ hM=>⟨hM.f3,⟨qN,⟨qN,trivial⟩⟩⟩) ⟨kF,⟨kS,trivial⟩⟩ fun a9 c9 xs9=>go AG 7 [6] (y<|fun b41=>fun _=>Ha 0 23 [qF] rfl rfl rfl rfl rfl rfl (fun w f _ _ hM=>⟨hM.f3,⟨qN,trivial⟩⟩) ⟨kF,trivial⟩ fun a10 c10 xs10=>go AG 9 [5,5,5] (y<|y<|y<|fun b42=>fun _=>Ha 0 24 [qS,qS,qS] rfl rfl rfl rfl rfl rfl (fun w f _ _ hM=>⟨hM.f3,⟨qN,⟨qN,⟨qN,trivial⟩⟩⟩⟩) ⟨kS,⟨kS,⟨kS,trivial⟩⟩⟩ fun a11 c11 xs11=>go AG 8 [5,7] (y<|y<|fun b43=>fun _=>Ha 0 27 [qS,qI] rfl rfl rfl rfl rfl rfl (fun w f _ _ hM=>⟨hM.f3,⟨qN,⟨qN,trivial⟩⟩⟩) ⟨kS,⟨kI,trivial⟩⟩ fun a12 c12 xs12=>?_)))))
 refine go AG 10 [5,7,7,5] (y<|y<|y<|y<|fun b44=>fun _=>Ha 0 28 [qS,qI,qI,qS] rfl rfl rfl rfl rfl rfl (fun w f _ _ hM=>⟨hM.f3,⟨qN,⟨qN,⟨qN,⟨qN,trivial⟩⟩⟩⟩⟩) ⟨kS,⟨kI,⟨kI,⟨kS,trivial⟩⟩⟩⟩ fun a13 c13 xs13=>go AG 9 [5,5,4] (y<|y<|y<|fun b45=>fun _=>Ha 0 30 [qS,qS,qB] rfl rfl rfl rfl rfl rfl (fun w f _ _ hM=>⟨hM.f3,⟨qN,⟨qN,⟨qN,trivial⟩⟩⟩⟩) ⟨kS,⟨kS,⟨kB,trivial⟩⟩⟩ fun a14 c14 xs14=>go AG 8 [7,5] (y<|y<|fun b46=>fun _=>Ha 0 32 [qI,qS] rfl rfl rfl rfl rfl rfl (fun w f _ _ hM=>⟨hM.f3,⟨qN,⟨qN,trivial⟩⟩⟩) ⟨kI,⟨kS,trivial⟩⟩ fun a15 c15 xs15=>go AG 8 [5,3] (y<|y<|fun b47=>fun _=>Ha 0 33 [qS,qU] rfl rfl rfl rfl rfl rfl (fun w f _ _ hM=>⟨hM.f3,⟨qN,⟨qN,trivial⟩⟩⟩) ⟨kS,⟨kU,trivial⟩⟩ fun a16 c16 xs16=>go AG 8 [3,5] (y<|y<|fun b48=>fun _=>Ha 0 34 [qU,qS] rfl rfl rfl rfl rfl rfl (fun w f _ _ hM=>⟨hM.f3,⟨qN,⟨qN,trivial⟩⟩⟩) ⟨kU,⟨kS,trivial⟩⟩ fun a17 c17 xs17=>?_)))))
 refine go AG 8 [2,1] (y<|y<|fun b49=>fun _=>Ha 0 35 [qV,(qR ra rc)] rfl rfl rfl rfl rfl rfl (fun w f _ _ hM=>⟨hM.f3,⟨qN,⟨hM.f2,trivial⟩⟩⟩) ⟨kV,⟨(D0 dC dC trivial),trivial⟩⟩ fun a18 c18 xs18=>go AG 8 [1,2] (y<|y<|fun b50=>fun _=>Ha 0 36 [(qR ra rc),qV] rfl rfl rfl rfl rfl rfl (fun w f _ _ hM=>⟨hM.f3,⟨hM.f2,⟨qN,trivial⟩⟩⟩) ⟨(D0 dC dC trivial),⟨kV,trivial⟩⟩ fun a19 c19 xs19=>go AG 9 [1,2,3] (y<|y<|y<|fun b51=>fun _=>Ha 0 37 [(qR ra rc),qV,qU] rfl rfl rfl rfl rfl rfl (fun w f _ _ hM=>⟨hM.f3,⟨hM.f2,⟨qN,⟨qN,trivial⟩⟩⟩⟩) ⟨(D0 dC dC trivial),⟨kV,⟨kU,trivial⟩⟩⟩ fun a20 c20 xs20=>go AG 8 [2,0] (y<|y<|fun b52=>fun _=>Ha 0 38 [qV,(qP pa pc)] rfl rfl rfl rfl rfl rfl (fun w f _ _ hM=>⟨hM.f3,⟨qN,⟨hM.f1,trivial⟩⟩⟩) ⟨kV,⟨(D0 dC dC trivial),trivial⟩⟩ fun a21 c21 xs21=>go AG 8 [0,2] (y<|y<|fun b53=>fun _=>Ha 0 39 [(qP pa pc),qV] rfl rfl rfl rfl rfl rfl (fun w f _ _ hM=>⟨hM.f3,⟨hM.f1,⟨qN,trivial⟩⟩⟩) ⟨(D0 dC dC trivial),⟨kV,trivial⟩⟩ fun a22 c22 xs22=>?_)))))
 exact go AG 9 [0,2,3] (y<|y<|y<|fun b54=>fun _=>Ha 0 40 [(qP pa pc),qV,qU] rfl rfl rfl rfl rfl rfl (fun w f _ _ hM=>⟨hM.f3,⟨hM.f1,⟨qN,⟨qN,trivial⟩⟩⟩⟩) ⟨(D0 dC dC trivial),⟨kV,⟨kU,trivial⟩⟩⟩ fun a23 c23 xs23=>go AG 4 [] (fun _=>Fh rfl rfl (fun w f hM=>Al rfl MJ hM.res.blk rfl)<|go AG 4 [] (fun _=>AY (Dz rfl rfl) (fun w f hM=>by obtain⟨f2,h1,h2⟩:=hM.res.fin (l:=Cp) hM.exm (fun b hb=>(hM.mi b (.inr hb)).2.2.elim id fun h=>h.elim) hM.f0 rfl dC;exact⟨(a23,c23),f2,rfl,trivial,h1,⟨h2,trivial⟩⟩))))
end Go.Proofs.YthofplgbhecdcaaGreatDoor
