/- InferWraps: of every text the law answers true: an expression has the same type alone, in a seq, as the argument of the identity, in a transact, bound and named, in an if and in a case. -/
import Derived.Test.YtgdndhedjlmagaaGreatDoorGw6
import Derived.ChangeMaps5
set_option linter.unusedVariables false
set_option linter.unusedSimpArgs false
namespace Go.SP
open Go.SW Go.RowKit
structure Cn(s:CS):Prop where
 con:s.cons=iF
 f0:0≤s.fresh
 sol:Ea (AX s.fresh) s.sol
def En(f:Int)(e:AB):Prop:=∀b,b∈e→b.t.one.on (λv=>AX f v||b.all.contains v)=true
theorem En.up{f f':Int}{e:AB}(h:f≤f')(he:En f e):En f' e:=λb F=>EY (λv D=>by rw[Bool.or_eq_true] at D ⊢;exact D.imp (Pt h) id) _ (he b F)
theorem En.more{f:Int}{e:AB}(he:En f e)(tx:lU){t:T1}(all:List Int)(D:t.one.on (AX f)=true):En f (⟨tx,t,all⟩::e):=λb h=>by
 rcases List.mem_cons.1 h with rfl|h
 · exact EY (λv F=>by rw[F];rfl) _ D
 · exact he b h
section
variable{s s1:CS}{e e1:AB}{ln co:Int}{tx:lU}{t:T1}
theorem Cn.fresh(h:Cn s):Cn (Au s).2∧s.fresh≤(Au s).2.fresh∧(Au s).1.one.on (AX (Au s).2.fresh)=true :=
 ⟨⟨h.con,by have:=h.f0;show 0≤s.fresh+1;omega,h.sol.imp λ_=>Pt (by show s.fresh≤s.fresh+1;omega)⟩,by show s.fresh≤s.fresh+1;omega,by
   rw[show (Au s).1=.var (s.fresh+1) from C,Cd];have:=h.f0;show AX (s.fresh+1) _=true;simp only[AX,Bool.and_eq_true,decide_eq_true_eq];omega⟩
theorem Cn.has(h:Cn s){a b:T1}(D:a.one.on (AX s.fresh)=true)(F:b.one.on (AX s.fresh)=true)(G:Da s a b ln co=.ok s1):Cn s1∧s1.fresh=s.fresh:=by
 obtain⟨m,hu,rfl⟩:=Rz G;exact⟨⟨h.con,h.f0,MN _ h.sol D F (by cases a <;> cases b <;> rfl) hu⟩,C⟩
theorem Cn.news(h:Cn s)(l:List Int):Cn (AL l s).2∧s.fresh≤(AL l s).2.fresh:=by
 obtain⟨_,_,G,D,F⟩:=LU l s h.f0;have:=h.f0;exact⟨⟨F.trans h.con,oM,by rw[D];exact h.sol.imp λ_=>Pt oM⟩,oM⟩
theorem Cn.make(h:Cn s){k:Nat}{a:Ty}{o:T1}(D:Gk s tx k ln co=.ok (a,o,s1)):Cn s1∧s.fresh≤s1.fresh∧a.on (AX s1.fresh)=true∧o.one.on (AX s1.fresh)=true∧a.len=k:=by
 unfold Gk at D;rw[h.con] at D
 split at D
 · cases D
 · rename_i m hm
   obtain⟨_,F⟩:=ME (p:=λp=>p.2.args.on (λv=>p.2.vars.contains v)&&p.2.out.one.on (λv=>p.2.vars.contains v)) dC hm;simp only[Bool.and_eq_true] at F
   split at D
   · rename_i L
     cases D
     obtain⟨J,K,_⟩:=LU m.vars s h.f0;obtain⟨O,c2⟩:=h.news m.vars;refine⟨O,c2,LW J K _ (EY (λv G=>by rw[G,Bool.or_true]) _ F.1),Ub J K (EY (λv G=>by rw[G,Bool.or_true]) _ F.2),?_⟩;rw[Jo];have:=beq_iff_eq.1 L;omega
   · cases D
theorem Uv:∀{e:AB}{b:Bd},Ed e tx=some b→b∈e
 |x::e,b,h=>by
   unfold Ed at h
   split at h
   · cases h;exact .head _
   · exact .tail _ (Uv h)
theorem W2{t1:T1}(D:Ds s t ln co=.ok t1):fullS s.sol t=some t1:=by
 unfold Ds at D
 split at D
 · cases D
 · rename_i h;cases D;exact h
theorem Cn.look(h:Cn s)(he:En s.fresh e)(D:El s e tx ln co=.ok (t,s1)):Cn s1∧s.fresh≤s1.fresh∧t.one.on (AX s1.fresh)=true:=by
 unfold El at D
 split at D
 · cases D
 · rename_i b J
   split at D
   · cases D
   · rename_i f K
     cases D
     have L:=Lq (p:=λv=>AX s.fresh v||b.all.contains v) (h.sol.imp λn O=>by rw[O];rfl) (he b (Uv J)) (W2 K);obtain⟨Q,U,_⟩:=LU ((Ak f).filter λv=>b.all.contains v) s h.f0;obtain⟨W,c2⟩:=h.news ((Ak f).filter λv=>b.all.contains v);refine⟨W,c2,Ub Q U (EY (λv G=>?_) _ (Oh _ L (L0 f.one [])))⟩;simp only[Bool.and_eq_true,Bool.or_eq_true] at G ⊢;rcases G.1 with F|F
     · exact .inl (Pt c2 F)
     · refine .inr ?_
       rw[List.contains_iff_mem] at F ⊢;rw[List.mem_filter];exact⟨List.contains_iff_mem.1 G.2,List.contains_iff_mem.2 F⟩
theorem Cn.with(h:Cn s)(he:En s.fresh e)(F:t.one.on (AX s.fresh)=true){v:Bool}(D:DG s e tx t v ln co=.ok e1):En s.fresh e1:=by
 unfold DG at D
 split at D
 · split at D
   · cases D
   · rename_i f G
     cases D
     exact he.more tx _ (Lq h.sol F (W2 G))
 · cases D
   exact he.more tx _ F
end
def nL(p:Hq):Prop:=∀⦃s:CS⦄⦃e:AB⦄⦃op ln co nm:Int⦄⦃tx:lU⦄⦃k:Nd⦄⦃t:T1⦄⦃s1:CS⦄,Cn s→En s.fresh e→FK op k→p s e op ln co tx nm k=.ok (t,s1)→Cn s1∧s.fresh≤s1.fresh∧t.one.on (AX s1.fresh)=true
def yF(p:Jq):Prop:=∀⦃s:CS⦄⦃e:AB⦄⦃op ln co nm:Int⦄⦃tx:lU⦄⦃k:Nd⦄⦃t:T1⦄⦃e1:AB⦄⦃s1:CS⦄,Cn s→En s.fresh e→(21≤op∧op≤27)→k.wfm 9→p s e op ln co tx nm k=.ok (t,e1,s1)→Cn s1∧s.fresh≤s1.fresh∧t.one.on (AX s1.fresh)=true∧En s1.fresh e1
section
variable{p:Hq}(hp:nL p)
include hp
theorem NG{e:AB}:∀(k:Nd){s s1:CS}{l:Ty},Cn s→En s.fresh e→k.wfm 0→CA p e s k=.ok (l,s1)→Cn s1∧s.fresh≤s1.fresh∧l.on (AX s1.fresh)=true∧l.len=k.len
 |.nil,_,_,_,D,_,_,h=>by cases h;exact⟨D,Int.le_refl _,C,C⟩
 |.cons op ln co tx nm k r,s,s1,l,D,he,hw,h=>by
   unfold CA at h
   split at h
   · cases h
   · rename_i t s2 F
     split at h
     · cases h
     · rename_i K L G
       cases h
       obtain⟨J,c2,c3⟩:=hp D he hw.1 F;obtain⟨d1,d2,d3,d4⟩:=NG r J (he.up c2) hw.2 G;exact⟨d1,oM,L2 (Fk d2 c3) d3,by rw[T1.len_cons,d4];rfl⟩
theorem Uf{e:AB}:∀(k:Nd){s s1:CS}{a:Ty},Cn s→En s.fresh e→k.wfm 0→a.on (AX s.fresh)=true→a.len=k.len→Dt p e s a k=.ok s1→Cn s1∧s.fresh≤s1.fresh
 |.nil,_,_,_,D,_,_,_,_,h=>by cases h;exact⟨D,Int.le_refl _⟩
 |.cons op ln co tx nm k r,s,s1,a,D,he,hw,F,G,h=>by
   have G:a.len=r.len+1:=G;have J:=Rf (y:=a) oM;unfold Dt at h
   split at h
   · cases h
   · rename_i t s2 K
     split at h
     · cases h
     · rename_i Q L
       obtain⟨O,c2,c3⟩:=hp D he hw.1 K;obtain⟨d1,d2⟩:=O.has (Fk c2 (NO F oM)) c3 L;obtain⟨g1,g2⟩:=Uf r d1 (he.up oM) hw.2 (Fk oM (XK F)) oM h;exact⟨g1,oM⟩
theorem XY{e:AB}:∀(k:Nd){s s1:CS}{t t1:T1},Cn s→En s.fresh e→k.wfm 0→t.one.on (AX s.fresh)=true→EU p e s t k=.ok (t1,s1)→Cn s1∧s.fresh≤s1.fresh∧t1.one.on (AX s1.fresh)=true
 |.nil,_,_,_,_,D,_,_,F,h=>by cases h;exact⟨D,Int.le_refl _,F⟩
 |.cons op ln co tx nm k r,s,s1,t,t1,D,he,hw,F,h=>by
   unfold EU at h
   split at h
   · cases h
   · rename_i a s2 G
     split at h
     · cases h
     · rename_i L J
       obtain⟨K,c2,c3⟩:=hp D he hw.1 G;obtain⟨f1,f2,f3⟩:=K.fresh;obtain⟨d1,d2⟩:=f1.has (Fk oM F) (CG.trans (L2 (Fk f2 c3) f3)) J;obtain⟨g1,g2,g3⟩:=XY r d1 (he.up oM) hw.2 (by rw[d2];exact f3) h;exact⟨g1,oM,g3⟩
variable {k:Nd}
theorem mH{s s1:CS}{e:AB}{ln co o l c m:Int}{tx x:lU}{t:T1}(D:Cn s)(he:En s.fresh e)(hw:FK o k)(h:EG p s e ln co tx o l c x m k=.ok (t,s1)):Cn s1∧s.fresh≤s1.fresh∧t.one.on (AX s1.fresh)=true:=by
 unfold EG at h
 split at h
 · cases h
 · rename_i F
   split at h
   · cases h
   · rename_i G
     cases h
     obtain⟨f1,f2,f3⟩:=D.fresh;obtain⟨J,c2,c3⟩:=hp f1 ((he.up f2).more tx [] f3) hw F;obtain⟨d1,d2⟩:=J.has (Fk c2 f3) c3 G;exact⟨d1,oM,by rw[d2];exact c3⟩
end
theorem SQ:∀(k:Nd){s:CS}{e:AB},Cn s→En s.fresh e→Cn (CZ s e k).2.2∧s.fresh≤(CZ s e k).2.2.fresh∧(CZ s e k).1.on (AX (CZ s e k).2.2.fresh)=true∧En (CZ s e k).2.2.fresh (CZ s e k).2.1
 |.nil,_,_,h,he=>⟨h,Int.le_refl _,C,he⟩
 |.cons _ _ _ _ _ _ .nil,_,_,h,he=>⟨h,Int.le_refl _,C,he⟩
 |.cons op ln co tx nm k (.cons o l c x m k2 r),s,e,h,he=>by
   obtain⟨f1,f2,f3⟩:=h.fresh
   have D:En (Au s).2.fresh (if op==22 then ⟨tx,(Au s).1,[]⟩::e else e):=by
     split
     · exact (he.up f2).more tx [] f3
     · exact he.up f2
   obtain⟨G,F,J,K⟩:=SQ (.cons o l c x m k2 r) f1 D;exact⟨G,Int.le_trans f2 F,L2 (Fk F f3) J,K⟩
section
variable{p:Jq}(hp:yF p)
include hp
theorem PO:∀(k:Nd){s s1:CS}{e e1:AB}{a:Ty},Cn s→En s.fresh e→k.wfm 9→a.on (AX s.fresh)=true→a.len=k.len→Dx p s e a k=.ok (e1,s1)→Cn s1∧s.fresh≤s1.fresh∧En s1.fresh e1
 |.nil,_,_,_,_,_,D,he,_,_,_,h=>by cases h;exact⟨D,Int.le_refl _,he⟩
 |.cons op ln co tx nm k r,s,s1,e,e1,a,D,he,hw,F,G,h=>by
   have G:a.len=r.len+1:=G;have J:=Rf (y:=a) oM;unfold Dx at h
   split at h
   · cases h
   · rename_i q Q s2 K
     split at h
     · cases h
     · rename_i U L
       obtain⟨O,c2,c3,c4⟩:=hp D he hw.1.1 hw.1.2 K;obtain⟨d1,d2⟩:=O.has (Fk c2 (NO F oM)) c3 L;obtain⟨g1,g2,g3⟩:=PO r d1 (d2▸c4) hw.2 (Fk oM (XK F)) oM h;exact⟨g1,oM,g3⟩
theorem Qz:∀(k:Nd){s s1:CS}{e e1:AB}{l:Ty},Cn s→En s.fresh e→k.wfm 9→CU p s e k=.ok (l,e1,s1)→Cn s1∧s.fresh≤s1.fresh∧l.on (AX s1.fresh)=true∧En s1.fresh e1
 |.nil,_,_,_,_,_,D,he,_,h=>by cases h;exact⟨D,Int.le_refl _,C,he⟩
 |.cons op ln co tx nm k r,s,s1,e,e1,l,D,he,hw,h=>by
   unfold CU at h
   split at h
   · cases h
   · rename_i q K s2 F
     split at h
     · cases h
     · rename_i L O Q G
       cases h
       obtain⟨J,c2,c3,c4⟩:=hp D he hw.1.1 hw.1.2 F;obtain⟨g1,g2,g3,g4⟩:=Qz r J c4 hw.2 G;exact⟨g1,oM,L2 (Fk g2 c3) g3,g4⟩
variable {k:Nd}
theorem gI{s s1:CS}{e e1:AB}{op ln co:Int}{tx:lU}{t:T1}(D:Cn s)(he:En s.fresh e)(U:21≤op∧op≤27)(hw:k.wfm 9)(h:CE p s e op ln co tx k=.ok (t,e1,s1)):Cn s1∧s.fresh≤s1.fresh∧t.one.on (AX s1.fresh)=true∧En s1.fresh e1:=by
 obtain⟨f1,f2,f3⟩:=D.fresh;unfold CE at h
 split at h
 · cases h;exact⟨f1,f2,f3,he.up f2⟩
 rename_i G
 split at h
 · cases h;exact⟨f1,f2,f3,(he.up f2).more tx [] f3⟩
 rename_i J
 split at h
 · cases h;exact⟨D,Int.le_refl _,C,he⟩
 rename_i n3
 split at h
 · cases h;exact⟨D,Int.le_refl _,C,he⟩
 rename_i n4
 split at h
 · cases h;exact⟨D,Int.le_refl _,C,he⟩
 rename_i K
 split at h
 · split at h
   · cases h
   · rename_i F
     split at h
     · cases h
     · rename_i L
       cases h
       obtain⟨O,c2,c3,c4,c5⟩:=D.make F;obtain⟨d1,d2,d3⟩:=PO hp k O (he.up c2) hw c3 c5 L;exact⟨d1,oM,Fk d2 c4,d3⟩
 rename_i n6
 split at h
 · split at h
   · cases h
   · rename_i F
     cases h
     obtain⟨d1,d2,d3,d4⟩:=Qz hp k D he hw F;exact⟨d1,d2,CG.trans d3,d4⟩
 rename_i Q;simp only[beq_iff_eq] at G J n3 n4 K n6 Q;omega
end
theorem Xh:∀n,yF (BM n)
 |0=>λs e op ln co nm tx k t e1 s1 _ _ _ _ h=>by cases h
 |n+1=>λs e op ln co nm tx k t e1 s1 D he F hw h=>by
   unfold BM at h
   split at h
   · cases h
   · rename_i G
     split at h
     · cases h
     · cases h
       exact gI (Xh n) D he F hw G
section
variable{p:Hq}(hp:nL p)
include hp
variable {n:Nat}
theorem Ls{e:AB}{pt:T1}:∀(k:Nd){s s1:CS}{o:Option T1}{t:T1},Cn s→En s.fresh e→k.wfm 1→pt.one.on (AX s.fresh)=true→(∀u,o=some u→u.one.on (AX s.fresh)=true)→(o=none→0<k.len)→BY n p e pt s o k=.ok (t,s1)→Cn s1∧s.fresh≤s1.fresh∧t.one.on (AX s1.fresh)=true
 |.nil,s,s1,o,t,J,_,_,_,G,K,h=>by
   cases h
   cases o with
   |none=>exact absurd (K C) dC
   |some u=>exact⟨J,Int.le_refl _,G u C⟩
 |.cons _ _ _ _ _ ks r,s,s1,o,t,J,he,hw,F,G,_,h=>by
   obtain⟨op,ln,co,tx,nm,pk,kr,rfl⟩:=Bt hw.1 dC;have D:=wfm8.1 hw.1;obtain⟨L,O,Q,U,W,bk,br,rfl⟩:=Bt D.2 dC;unfold BY at h;simp only at h
   split at h
   · cases h
   rename_i q inner s2 Y
   split at h
   · cases h
   rename_i s3 Z
   split at h
   · cases h
   rename_i rt s4 h3;obtain⟨c1,c2,c3,c4⟩:=Xh n J he D.1.1 D.1.2 Y;obtain⟨d1,d2⟩:=c1.has (Fk c2 F) c3 Z;obtain⟨g1,g2,g3⟩:=hp d1 (d2▸c4) D.2 h3
   cases o with
   |some t0 =>
     simp only at h
     split at h
     · cases h
     rename_i s5 h4;obtain⟨i1,i2⟩:=g1.has (Fk oM (G t0 C)) g3 h4;obtain⟨j1,j2,j3⟩:=Ls r i1 (he.up oM) hw.2 (Fk oM F) (λu hu=>by cases hu;exact Fk oM (G t0 C)) (λh=>by cases h) h;exact⟨j1,oM,j3⟩
   |none =>
     obtain⟨j1,j2,j3⟩:=Ls r g1 (he.up oM) hw.2 (Fk oM F) (λu hu=>by cases hu;exact g3) (λh=>by cases h) h;exact⟨j1,oM,j3⟩
end
theorem Xl:∀{k:Nd}{b:N},k.wfm 4→k.last=some b→FK b.op b.kids
 |.cons op ln co tx nm k .nil,b,h,D=>by
   cases D
   rcases mC.1 h with h|h
   · exact h.2
   · exact absurd C h.1
 |.cons op ln co tx nm k (.cons o l c x m k2 r),b,h,D=>by
   rcases mC.1 h with h|h
   · cases h.1
   · exact Xl h.2 D
theorem LH{q:Int→Bool}:∀{x:Ty},x.on q=true→0<x.len→x.last.one.on q=true
 |.var n .nil,h,_=>h
 |.con tx k .nil,h,_=>h
 |.var _ (.var m r),h,_=>by simp only[Ty.on,Bool.and_eq_true] at h;exact LH (x:=.var m r) (by simp only[Ty.on,Bool.and_eq_true];exact h.2) (Nat.zero_lt_succ _)
 |.var _ (.con t k r),h,_=>by simp only[Ty.on,Bool.and_eq_true] at h;exact LH (x:=.con t k r) (by simp only[Ty.on,Bool.and_eq_true];exact h.2) (Nat.zero_lt_succ _)
 |.con _ _ (.var m r),h,_=>by simp only[Ty.on,Bool.and_eq_true] at h;exact LH (x:=.var m r) (by simp only[Ty.on,Bool.and_eq_true];exact h.2) (Nat.zero_lt_succ _)
 |.con _ _ (.con t k r),h,_=>by simp only[Ty.on,Bool.and_eq_true] at h;exact LH (x:=.con t k r) (by simp only[Ty.on,Bool.and_eq_true];exact h.2) (Nat.zero_lt_succ _)
theorem NZ{q:Int→Bool}:∀{x:Ty},x.on q=true→0<x.len→(Gf x).one.on q=true
 |.var n .nil,h,_=>h
 |.con tx k .nil,h,_=>h
 |.var n (.var m r),h,_=>by
   simp only[Ty.on,Bool.and_eq_true] at h;have:=NZ (x:=.var m r) (by simp only[Ty.on,Bool.and_eq_true];exact h.2) (Nat.zero_lt_succ _);simp only[Gf,CG,Ty.on,h.1,this,Bool.and_true]
 |.var n (.con t k r),h,_=>by
   simp only[Ty.on,Bool.and_eq_true] at h;have:=NZ (x:=.con t k r) (by simp only[Ty.on,Bool.and_eq_true];exact h.2) (Nat.zero_lt_succ _);simp only[Gf,CG,Ty.on,h.1,this,Bool.and_true]
 |.con t k (.var m r),h,_=>by
   simp only[Ty.on,Bool.and_eq_true] at h;have:=NZ (x:=.var m r) (by simp only[Ty.on,Bool.and_eq_true];exact h.2) (Nat.zero_lt_succ _);simp only[Gf,CG,Ty.on,h.1,this,Bool.and_true]
 |.con t k (.con t2 k2 r),h,_=>by
   simp only[Ty.on,Bool.and_eq_true] at h;have:=NZ (x:=.con t2 k2 r) (by simp only[Ty.on,Bool.and_eq_true];exact h.2) (Nat.zero_lt_succ _);simp only[Gf,CG,Ty.on,h.1,this,Bool.and_true]
variable {n:Nat}{k:Nd}
theorem fH{p:Hq}(hp:nL p){s s1:CS}{e:AB}{op ln co:Int}{tx:lU}{t:T1}(G:Cn s)(he:En s.fresh e)(hw:FK op k)(h:AQ n p s e op ln co tx k=.ok (t,s1)):Cn s1∧s.fresh≤s1.fresh∧t.one.on (AX s1.fresh)=true:=by
 unfold AQ at h
 by_cases n1:(op==1)=true
 · rw[if_pos n1] at h
   cases h;exact⟨G,Int.le_refl _,C⟩
 rw[if_neg n1] at h
 by_cases n2:(op==2)=true
 · rw[if_pos n2] at h
   cases h;exact⟨G,Int.le_refl _,C⟩
 rw[if_neg n2] at h
 by_cases n3:(op==3)=true
 · rw[if_pos n3] at h
   cases h;exact⟨G,Int.le_refl _,C⟩
 rw[if_neg n3] at h
 by_cases n4:(op==4)=true
 · rw[if_pos n4] at h
   cases h;exact⟨G,Int.le_refl _,C⟩
 rw[if_neg n4] at h
 by_cases n5:(op==5)=true
 · rw[if_pos n5] at h
   exact G.look he h
 rw[if_neg n5] at h
 by_cases n6:(op==6)=true
 · rw[if_pos n6] at h
   obtain rfl:=eq_of_beq n6
   split at h
   · cases h
   rename_i F
   split at h
   · cases h
   rename_i J
   cases h
   obtain⟨D,c2,c3,c4,c5⟩:=G.make F;obtain⟨d1,d2⟩:=Uf hp k D (he.up c2) (wf6 hw) c3 c5 J;exact⟨d1,oM,Fk d2 c4⟩
 rw[if_neg n6] at h
 by_cases n7:(op==7)=true
 · rw[if_pos n7] at h
   obtain rfl:=eq_of_beq n7;have hw:=wf7 hw
   split at h
   · rename_i hl
     cases k with
     |nil=>rcases hw with h|h|h <;> omega
     |cons o l c x m k2 r =>
       have:∀{o l c m:Int}{x:lU}{k r:Nd},(Nd.cons o l c x m k r).last≠none:=by
         intro o l c m x k r
         induction r generalizing o l c m x k with
         |nil=>intro h;cases h
         |cons _ _ _ _ _ _ _ _ ih=>exact ih
       exact absurd hl this
   · rename_i b hb
     simp only at h
     split at h
     · cases h
     rename_i F
     cases h
     obtain⟨p1,p2,p3,p4⟩:=SQ k G he;obtain⟨D,c2,c3⟩:=hp p1 p4 (Xl hw hb) F;refine⟨D,oM,NZ (Hs _ _ (Fk c2 p3) c3) ?_⟩;rw[Ty.len_snoc];omega
 rw[if_neg n7] at h
 by_cases n8:(op==8)=true
 · rw[if_pos n8] at h
   obtain rfl:=eq_of_beq n8;obtain⟨hl,hw⟩:=wf8 hw
   split at h
   · cases hl
   · split at h
     · cases h
     rename_i F;obtain⟨D,c2,c3⟩:=hp G he hw.1 F;obtain⟨d1,d2,d3⟩:=XY hp _ D (he.up c2) hw.2 c3 h;exact⟨d1,oM,d3⟩
 rw[if_neg n8] at h
 by_cases n9:(op==9)=true
 · rw[if_pos n9] at h
   obtain rfl:=eq_of_beq n9;have hw:=wf9 hw;obtain⟨o,l,c,x,m,k1,r,rfl⟩:=Bt hw dC;obtain⟨o2,l2,Z,x2,m2,k2,r2,rfl⟩:=Bt hw.2 dC;simp only at h
   split at h
   · cases h
   rename_i t1 s2 F
   split at h
   · cases h
   rename_i e1 J;obtain⟨D,c2,c3⟩:=hp G he hw.1 F
   have he1:En s2.fresh e1:=by
     split at J
     · cases J;exact he.up c2
     · exact D.with (he.up c2) c3 J
   obtain⟨d1,d2,d3⟩:=hp D he1 hw.2 h;exact⟨d1,oM,d3⟩
 rw[if_neg n9] at h
 by_cases K:(op==10)=true
 · rw[if_pos K] at h
   obtain rfl:=eq_of_beq K;have hw:=wf10 hw;obtain⟨o,l,c,x,m,k1,r,rfl⟩:=Bt hw dC;obtain⟨o2,l2,Z,x2,m2,k2,r2,rfl⟩:=Bt hw.2 dC;simp only at h
   split at h
   · cases h
   rename_i t1 s2 F
   split at h
   · cases h
   rename_i e1 J;obtain⟨D,c2,c3⟩:=mH hp G he hw.1 F;obtain⟨d1,d2,d3⟩:=hp D (D.with (he.up c2) c3 J) hw.2 h;exact⟨d1,oM,d3⟩
 rw[if_neg K] at h
 by_cases L:(op==11)=true
 · rw[if_pos L] at h
   obtain rfl:=eq_of_beq L;have hw:=xL hw;obtain⟨o,l,c,x,m,k1,r,rfl⟩:=Bt hw dC;obtain⟨o2,l2,Z,x2,m2,k2,r2,rfl⟩:=Bt hw.2 dC;obtain⟨o3,l3,c3',x3,m3,k3,r3,rfl⟩:=Bt hw.2.2 dC;simp only at h
   split at h
   · cases h
   rename_i F
   split at h
   · cases h
   rename_i J
   split at h
   · cases h
   rename_i h3
   split at h
   · cases h
   rename_i h4
   split at h
   · cases h
   rename_i h5
   cases h
   obtain⟨D,c2,c3⟩:=hp G he hw.1 F;obtain⟨d1,d2⟩:=D.has C c3 J;obtain⟨f1,f2,f3⟩:=hp d1 (he.up oM) hw.2.1 h3;obtain⟨g1,g2,g3⟩:=hp f1 (he.up oM) hw.2.2 h4;obtain⟨i1,i2⟩:=g1.has (Fk g2 f3) g3 h5;exact⟨i1,oM,Fk oM f3⟩
 rw[if_neg L] at h
 by_cases O:(op==12)=true
 · rw[if_pos O] at h
   obtain rfl:=eq_of_beq O;obtain⟨hl,hw⟩:=yH hw
   split at h
   · cases h
   rename_i F
   cases h
   obtain⟨D,c2,c3,c4⟩:=NG hp k G he hw F;exact⟨D,c2,LH c3 oM⟩
 rw[if_neg O] at h
 by_cases Q:(op==13)=true
 · rw[if_pos Q] at h
   obtain rfl:=eq_of_beq Q
   split at h
   · cases h
   rename_i F
   cases h
   obtain⟨D,c2,c3,c4⟩:=NG hp k G he (xG hw) F;exact⟨D,c2,CG.trans c3⟩
 rw[if_neg Q] at h
 by_cases U:(op==14)=true
 · rw[if_pos U] at h
   obtain rfl:=eq_of_beq U;have hw:=zE hw;obtain⟨o,l,c,x,m,k1,r,rfl⟩:=Bt hw dC;simp only at h
   split at h
   · cases h
   rename_i F;obtain⟨D,c2,c3⟩:=hp G he hw.1 F;obtain⟨d1,d2,d3⟩:=Ls hp _ D (he.up c2) hw.2.2 c3 (λu hu=>by cases hu) (λ_=>hw.2.1) h;exact⟨d1,oM,d3⟩
 rw[if_neg U] at h
 by_cases W:(op==15)=true
 · rw[if_pos W] at h
   obtain rfl:=eq_of_beq W;have hw:=xZ hw;obtain⟨o,l,c,x,m,k1,r,rfl⟩:=Bt hw dC;simp only at h
   split at h
   · cases h
   rename_i F;obtain⟨D,c2,c3⟩:=hp G he hw.1 F;obtain⟨d1,d2,d3⟩:=Ls hp _ D (he.up c2) hw.2.2 C (λu hu=>by cases hu;exact c3) (λh=>by cases h) h;exact⟨d1,oM,d3⟩
 rw[if_neg W] at h
 by_cases Y:(op==16)=true
 · rw[if_pos Y] at h
   obtain rfl:=eq_of_beq Y;have hw:=xD hw;obtain⟨o,l,c,x,m,k1,r,rfl⟩:=Bt hw dC;simp only at h
   split at h
   · cases h
   rename_i F
   split at h
   · cases h
   rename_i J
   cases h
   obtain⟨D,c2,c3⟩:=hp G he hw F;obtain⟨d1,d2⟩:=D.has C c3 J;obtain⟨f1,f2,f3⟩:=d1.fresh;exact⟨f1,Int.le_trans (Int.le_trans c2 (Int.le_of_eq d2.symm)) f2,f3⟩
 rw[if_neg Y] at h;have hw:k.wfm 3:=yU hw (eq_false_of_ne_true n1) (eq_false_of_ne_true n2) (eq_false_of_ne_true n3) (eq_false_of_ne_true n4) (eq_false_of_ne_true n5) (eq_false_of_ne_true n6) (eq_false_of_ne_true n7) (eq_false_of_ne_true n8) (eq_false_of_ne_true n9) (eq_false_of_ne_true K) (eq_false_of_ne_true L) (eq_false_of_ne_true O) (eq_false_of_ne_true Q) (eq_false_of_ne_true U) (eq_false_of_ne_true W) (eq_false_of_ne_true Y);obtain⟨o,l,c,x,m,k1,r,rfl⟩:=Bt hw dC;exact hp G he hw h
theorem Xo:∀n,nL (AJ n)
 |0=>λs e op ln co nm tx k t s1 _ _ _ h=>by cases h
 |n+1=>λs e op ln co nm tx k t s1 D he hw h=>by
   unfold AJ at h
   split at h
   · cases h
   · rename_i F
     split at h
     · cases h
     · cases h
       exact fH (Xo n) D he hw F
theorem iZ:En 0 B5:=by
 have h:B5.all (λb=>b.t.one.on (λv=>AX 0 v||b.all.contains v))=true:=dC;exact λb D=>List.all_eq_true.1 h b D
theorem uV:Cn ES:=⟨C,Int.le_refl _,λn t h=>by cases h⟩
def Ty.ren(g:Int→Int):Ty→Ty
 |.nil=>.nil
 |.var n r=>.var (g n) (r.ren g)
 |.con tx k r=>.con tx (k.ren g) (r.ren g)
def T1.ren(g:Int→Int):T1→T1
 |.var n=>.var (g n)
 |.con tx k=>.con tx (k.ren g)
theorem RR{g:Int→Int}(t:T1):t.one.ren g=(t.ren g).one:=by cases t <;> rfl
theorem tU{g:Int→Int}{x:Ty}(h:0<x.len):(x.ren g).hd=x.hd.ren g:=by
 cases x with
 |nil=>cases h
 |var n r=>rfl
 |con tx k r=>rfl
section
variable{g:Int→Int}{p:Int→Bool}(hg:∀a b,p a=true→p b=true→g a=g b→a=b)
include hg
theorem Xg{a b:Int}(D:p a=true)(F:p b=true):(g a==g b)=(a==b):=by
 by_cases e:a=b
 · subst e;simp
 · rw[beq_eq_false_iff_ne.2 e,beq_eq_false_iff_ne.2 λh=>e (hg a b D F h)]
theorem Yl{n:Int}(D:p n=true):∀l:List Int,l.all p=true→(l.map g).contains (g n)=l.contains n
 | [],_=>rfl
 |a::l,h=>by
   simp only[List.all_cons,Bool.and_eq_true] at h;simp only[List.map_cons,List.contains_cons,Yl D l h.2,Xg hg D h.1]
theorem LF:∀(x:Ty)(l:List Int),x.on p=true→l.all p=true→BZ (x.ren g) (l.map g)=(BZ x l).map g
 |.nil,_,_,_=>rfl
 |.var n r,l,h,D=>by
   simp only[Ty.on,Bool.and_eq_true] at h;simp only[Ty.ren,BZ,Yl hg h.1 l D];rw[show (if l.contains n=true then l.map g else l.map g++[g n])=(if l.contains n=true then l else l++[n]).map g by split <;> simp];refine LF r _ h.2 ?_
   split
   · exact D
   · simp[List.all_append,D,h.1]
 |.con _ k r,l,h,D=>by
   simp only[Ty.on,Bool.and_eq_true] at h;simp only[Ty.ren,BZ,LF k l h.1 D,LF r _ h.2 (Kq k l h.1 D)]
theorem XR{n:Int}(D:p n=true):∀l:List Int,l.all p=true→C1 (l.map g) (g n)=C1 l n
 | [],_=>rfl
 |k::l,h=>by
   simp only[List.all_cons,Bool.and_eq_true] at h;simp only[List.map_cons,C1,Xg hg h.1 D,XR D l h.2]
theorem H7{vs:List Int}(D:vs.all p=true):∀x:Ty,x.on p=true→C4 (vs.map g) (x.ren g)=C4 vs x
 |.nil,_=>rfl
 |.var n r,h=>by
   simp only[Ty.on,Bool.and_eq_true] at h;simp only[Ty.ren,C4,XR hg h.1 vs D,H7 D r h.2]
 |.con tx .nil r,h=>by
   simp only[Ty.on,Bool.and_eq_true] at h;simp only[Ty.ren,C4,H7 D r h.2]
 |.con tx (.var n k) r,h=>by
   simp only[Ty.on,Bool.and_eq_true] at h;have:=H7 D (.var n k) (by simp only[Ty.on,Bool.and_eq_true];exact h.1);simp only[Ty.ren] at this ⊢;simp only[C4,H7 D r h.2] at this ⊢;rw[this]
 |.con tx (.con t2 k2 k) r,h=>by
   simp only[Ty.on,Bool.and_eq_true] at h;have:=H7 D (.con t2 k2 k) (by simp only[Ty.on,Bool.and_eq_true];exact h.1);simp only[Ty.ren] at this ⊢;simp only[C4,H7 D r h.2];rw[this]
theorem PC{t:T1}(h:t.one.on p=true):De (t.ren g)=De t:=by
 have D:(Ak t).all p=true:=Kq _ _ h C;unfold De;rw[show Ak (t.ren g)=(Ak t).map g by unfold Ak;rw[← RR];exact LF hg _ [] h C,← RR,H7 hg D _ h]
end
def BX(d:Int)(b1:Bk)(X:List Int):Bk:=X.map (λm=>(m,T1.var (m+d)))++(b1.map (λp=>(E0 d p.1,p.2.sh d))++b1)
def gX(d:Int)(X:List Int)(n:Int):Int:=if X.contains n then n+d else n
def X4(d:Int)(X:List Int):T1→T1
 |.var m=>.var (gX d X m)
 |.con tx h=>.con tx h
structure yL(d:Int)(b1:Bk)(X:List Int):Prop where
 on:∀m,m∈X→AX d m=true∧A8 b1 m=none
 w:Lz (BX d b1 X)
theorem My{d n:Int}(h:AX d n=true):E0 d n=n+d:=by
 simp only[AX,Bool.and_eq_true,decide_eq_true_eq] at h;exact if_pos h.1
theorem Un{d n:Int}(h:AX d n=true){b0:Bk}:∀b:Bk,A8 (b.map (λp=>(E0 d p.1,p.2.sh d))++b0) n=A8 b0 n
 | []=>rfl
 |(k,t)::b=>by
   simp only[AX,Bool.and_eq_true,decide_eq_true_eq] at h;simp only[List.map_cons,List.cons_append,A8];rw[if_neg (by simp only[beq_iff_eq];unfold E0;split <;> omega)];exact Un (by simp only[AX,Bool.and_eq_true,decide_eq_true_eq];exact h) b
theorem Wr{d n:Int}{R:Bk}:∀X:List Int,A8 (X.map (λm=>(m,T1.var (m+d)))++R) n=if X.contains n then some (.var (n+d)) else A8 R n
 | []=>rfl
 |m::X=>by
   simp only[List.map_cons,List.cons_append,A8,List.contains_cons,Wr X]
   by_cases e:m=n
   · subst e;simp
   · rw[if_neg (by simpa using e),show (n==m)=false by simpa using λh:n=m=>e h.symm,Bool.false_or]
section
variable{d:Int}{b1:Bk}(hb:Ea (AX d) b1)(hw:Lz b1){X:List Int}(hX:yL d b1 X)
include hb
theorem cG{n:Int}(D:AX d n=true):A8 b1 (n+d)=none:=by
 cases h:A8 b1 (n+d) with
 |none=>rfl
 |some t =>
   have:=(hb _ t h).1;simp only[AX,Bool.and_eq_true,decide_eq_true_eq] at this D;omega
include hX
omit hb in
theorem Wj{n:Int}(h:AX d n=true):A8 (BX d b1 X) n=if X.contains n then some (.var (n+d)) else A8 b1 n:=by
 have _:=hX;unfold BX;rw[Wr,Un h]
theorem Vz{n:Int}(D:AX d n=true):A8 (BX d b1 X) (n+d)=(A8 b1 n).map (T1.sh d):=by
 unfold BX;have F:=D;simp only[AX,Bool.and_eq_true,decide_eq_true_eq] at F;rw[Wr,if_neg,← My D]
 · exact OO oM n (by rw[My D];exact cG hb D) b1
 · intro h
   have:=(hX.on _ (List.contains_iff_mem.1 h)).1;simp only[AX,Bool.and_eq_true,decide_eq_true_eq] at this;omega
include hw
theorem Yk:∀(k:Nat)(t:T1),Ei b1 t≤k→t.one.on (AX d)=true→Af (BX d b1 X) t=X4 d X (Af b1 t)∧Af (BX d b1 X) (t.sh d)=(Af b1 t).sh d:=by
 intro k
 induction k with
 |zero =>
   intro t L G
   cases t with
   |con tx O=>exact⟨C,C⟩
   |var n =>
     rw[Cd] at G;have D:=Wj hX G;have h:=Vz hb hX G
     cases F:A8 b1 n with
     |some t2=>have:=F8 hw F;omega
     |none =>
       rw[F] at D h;rw[AK F];refine⟨?_,by simp only[T1.sh,My G];exact AK h⟩;simp only[X4,gX]
       split at D
       · rename_i J;rw[BH hX.w D,if_pos J];exact AK h
       · rename_i J;rw[AK D,if_neg J]
 |succ k Q =>
   intro t L G
   cases t with
   |con tx O=>exact⟨C,C⟩
   |var n =>
     rw[Cd] at G;have D:=Wj hX G;have h:=Vz hb hX G
     cases F:A8 b1 n with
     |some t2 =>
       have U:=F8 hw F;rw[F] at D h;rw[BH hw F];have K:=Q t2 oM (hb n t2 F).2;rw[← K.1,← K.2]
       split at D
       · rename_i J;rw[(hX.on n (List.contains_iff_mem.1 J)).2] at F;cases F
       · exact⟨BH hX.w D,by simp only[T1.sh,My G];exact BH hX.w h⟩
     |none =>
       rw[F] at D h;rw[AK F];refine⟨?_,by simp only[T1.sh,My G];exact AK h⟩;simp only[X4,gX]
       split at D
       · rename_i J;rw[BH hX.w D,if_pos J];exact AK h
       · rename_i J;rw[AK D,if_neg J]
theorem Wn{t:T1}(h:t.one.on (AX d)=true):Af (BX d b1 X) t=X4 d X (Af b1 t):=(Yk hb hw hX _ t (Nat.le_refl _) h).1
theorem vV{t:T1}(h:t.one.on (AX d)=true):Af (BX d b1 X) (t.sh d)=(Af b1 t).sh d:=(Yk hb hw hX _ t (Nat.le_refl _) h).2
theorem N7:∀(k:Nat)(x:Ty),x.on (AX d)=true→By (BX d b1 X) k x=By b1 k x
 |k,.nil,_=>by cases k <;> rfl
 |0,.var _ _,_=>rfl
 |0,.con _ _ _,_=>rfl
 |k+1,.con tx F r,h=>by
   simp only[Ty.on,Bool.and_eq_true] at h;simp only[By];exact N7 k _ (Hs _ _ h.1 h.2)
 |k+1,.var n r,h=>by
   simp only[Ty.on,Bool.and_eq_true] at h;have D:=FA hb (t:=.var n) (Cd.trans h.1);simp only[By,Wn hb hw hX (t:=.var n) (Cd.trans h.1)]
   cases G:Af b1 (.var n) with
   |var m=>simp only[X4,N7 k r h.2]
   |con tx F=>rw[G,CG] at D;simp only[X4,N7 k _ (Hs _ _ D h.2)]
theorem M5:∀(k:Nat)(x:Ty),x.on (AX d)=true→AE (BX d b1 X) k x=(AE b1 k x).ren (gX d X)
 |k,.nil,_=>by cases k <;> rfl
 |0,.var _ _,_=>rfl
 |0,.con _ _ _,_=>rfl
 |k+1,.con tx D r,h=>by
   simp only[Ty.on,Bool.and_eq_true] at h;simp only[AE,Ty.ren,M5 k D h.1,M5 k r h.2]
 |k+1,.var n r,h=>by
   simp only[Ty.on,Bool.and_eq_true] at h;have F:=FA hb (t:=.var n) (Cd.trans h.1);simp only[AE,Wn hb hw hX (t:=.var n) (Cd.trans h.1)]
   cases G:Af b1 (.var n) with
   |var m=>simp only[X4,Ty.ren,M5 k r h.2]
   |con tx D=>rw[G,CG] at F;simp only[X4,Ty.ren,M5 k D F,M5 k r h.2]
theorem mD{t f:T1}(h:t.one.on (AX d)=true)(D:fullS b1 t=some f):fullS (BX d b1 X) t=some (f.ren (gX d X)):=by
 unfold fullS at D ⊢
 split at D
 · rename_i F
   cases D
   have G:=GV 1000 t.one F;rw[if_pos (by unfold D0;rw[N7 hb hw hX _ _ h];exact F),M5 hb hw hX _ _ h,tU (by rw[G];cases t <;> exact Nat.zero_lt_succ _)]
 · cases D
end
theorem Ig{d:Int}{b1:Bk}(hb:Ea (AX d) b1)(hw:Lz b1):∀(k:Nat)(x:Ty){X:List Int},yL d b1 X→x.on (AX d)=true →
   (∃Q,yL d b1 Q∧Bz k (BX d b1 X) x (x.sh d)=.ok (BX d b1 Q))∨Bz k (BX d b1 X) x (x.sh d)=.error 4
 |k,.nil,X,hX,_=>.inl ⟨X,hX,by cases k <;> rfl⟩
 |0,.var _ _,_,_,_=>.inr C
 |0,.con _ _ _,_,_,_=>.inr C
 |k+1,.con tx D r,X,hX,h=>by
   simp only[Ty.on,Bool.and_eq_true] at h
   have e:Bz (k+1) (BX d b1 X) (.con tx D r) ((Ty.con tx D r).sh d)=Bz k (BX d b1 X) (D.app r) ((D.app r).sh d):=by
     simp only[Ty.sh,Bz,Ty.hd,Ty.tl,Fj,BV,Ke,Hn];simp
   rw[e];exact Ig hb hw k _ hX (Hs _ _ h.1 h.2)
 |k+1,.var n r,X,hX,h=>by
   simp only[Ty.on,Bool.and_eq_true] at h;have F:=FA hb (t:=.var n) (Cd.trans h.1)
   have e:Bz (k+1) (BX d b1 X) (.var n r) ((Ty.var n r).sh d)=BV (Bz k) (BX d b1 X) (X4 d X (Af b1 (.var n))) ((Af b1 (.var n)).sh d) r (r.sh d):=by
     rw[← Wn hb hw hX (Cd.trans h.1),← vV hb hw hX (Cd.trans h.1)];rfl
   rw[e]
   cases G:Af b1 (.var n) with
   |con tx D =>
     rw[G,CG] at F
     have Z:BV (Bz k) (BX d b1 X) (X4 d X (.con tx D)) ((T1.con tx D).sh d) r (r.sh d)=Bz k (BX d b1 X) (D.app r) ((D.app r).sh d):=by
       simp only[X4,T1.sh,BV,Ke,Hn];simp
     rw[Z];exact Ig hb hw k _ hX (Hs _ _ F h.2)
   |var m =>
     rw[G,Cd] at F;have hm:=DK hw G;have J:=F;simp only[AX,Bool.and_eq_true,decide_eq_true_eq] at J;simp only[X4,T1.sh,My F,BV]
     by_cases K:X.contains m=true
     · rw[gX,if_pos K,if_pos (by simp)]
       exact Ig hb hw k r hX h.2
     · rw[gX,if_neg K,if_neg (by simp only[beq_iff_eq];omega)]
       unfold BG
       by_cases U:D0 (BX d b1 X) (.var (m+d))=true
       · have W:A8 (BX d b1 X) (m+d)=none:=by rw[Vz hb hX F,hm];rfl
         have Y:BB (BX d b1 X) m 1000 (T1.var (m+d)).one=true:=by
           show BB (BX d b1 X) m 1000 (.var (m+d) .nil)=true;simp only[BB,AK W];simp only[Bool.and_true,Bool.not_eq_true',beq_eq_false_iff_ne,ne_eq];omega
         rw[if_pos U,if_pos Y]
         have L:yL d b1 (m::X):=⟨λq O=>by
           rcases List.mem_cons.1 O with rfl|O
           · exact⟨F,hm⟩
           · exact hX.on q O,I5 hX.w (by rw[Wj hX F,if_neg K];exact hm) (AK W) Y⟩
         exact Ig hb hw k r L h.2
       · rw[if_neg U]
         exact .inr C
theorem rH{d:Int}{X:List Int}(a b:Int)(D:AX d a=true)(hb:AX d b=true)(h:gX d X a=gX d X b):a=b:=by
 simp only[AX,Bool.and_eq_true,decide_eq_true_eq] at D hb;unfold gX at h
 split at h <;> split at h <;> omega
def CgF(z:Nat)(p p':Hq):Prop:=∀(s:CS)(e:AB)(op ln co:Int)(tx:lU)(nm:Int)(k:Nd),k.size<z→p s e op ln co tx nm k=p' s e op ln co tx nm k
def CgP(z:Nat)(p p':Jq):Prop:=∀(s:CS)(e:AB)(op ln co:Int)(tx:lU)(nm:Int)(k:Nd),k.size<z→p s e op ln co tx nm k=p' s e op ln co tx nm k
variable {s:CS}{co ln:Int}{n':Nat}{r:Nd}
theorem Gg{op nm:Int}{tx:lU}:(Nd.cons op ln co tx nm k r).size=k.size+r.size+1:=rfl
theorem Xw{f g:Int→Nd→Bool}:∀k:Nd,(∀op q,q.size<k.size→f op q=g op q)→Me f k=Me g k
 |.nil,_=>rfl
 |.cons op _ _ _ _ k r,h=>by
   rw[Me,Me,h op k (by rw[Gg];omega),Xw r λo q D=>h o q (by rw[Gg];omega)]
theorem ON:∀(n n':Nat)(op:Int)(k:Nd),k.size<n→k.size<n'→Br n op k=Br n' op k
 |0,_,_,_,h,_=>by cases h
 |_+1,0,_,_,_,h=>by cases h
 |n+1,n'+1,op,k,h,D=>by
   rw[Br,Br,Xw k λo q F=>ON n n' o q (by omega) (by omega)]
section
variable{z:Nat}{p p':Hq}(hp:CgF z p p')
include hp
theorem WQ{e:AB}:∀(k:Nd)(s:CS),k.size≤z→CA p e s k=CA p' e s k
 |.nil,_,_=>rfl
 |.cons op ln co tx nm k r,s,h=>by
   rw[Gg] at h;have D:∀s,CA p e s r=CA p' e s r:=λs=>WQ r s oM;simp only[CA,hp s e op ln co tx nm k (by omega),D]
theorem Yi{e:AB}:∀(k:Nd)(s:CS)(a:Ty),k.size≤z→Dt p e s a k=Dt p' e s a k
 |.nil,_,_,_=>rfl
 |.cons op ln co tx nm k r,s,a,h=>by
   rw[Gg] at h;have D:∀s a,Dt p e s a r=Dt p' e s a r:=λs a=>Yi r s a oM;simp only[Dt,hp s e op ln co tx nm k (by omega),D]
theorem aH{e:AB}:∀(k:Nd)(s:CS)(t:T1),k.size≤z→EU p e s t k=EU p' e s t k
 |.nil,_,_,_=>rfl
 |.cons op ln co tx nm k r,s,t,h=>by
   rw[Gg] at h;have D:∀s t,EU p e s t r=EU p' e s t r:=λs t=>aH r s t oM;simp only[EU,hp s e op ln co tx nm k (by omega),D]
theorem vY{e:AB}{o l c m:Int}{tx x:lU}(h:k.size<z):EG p s e ln co tx o l c x m k=EG p' s e ln co tx o l c x m k:=by
 simp only[EG,hp _ _ o l c x m k h]
end
section
variable{z:Nat}{p p':Jq}(hp:CgP z p p')
include hp
theorem U7:∀(k:Nd)(s:CS)(e:AB)(a:Ty),k.size≤z→Dx p s e a k=Dx p' s e a k
 |.nil,_,_,_,_=>rfl
 |.cons op ln co tx nm k r,s,e,a,h=>by
   rw[Gg] at h;have D:∀s e a,Dx p s e a r=Dx p' s e a r:=λs e a=>U7 r s e a oM;simp only[Dx,hp s e op ln co tx nm k (by omega),D]
theorem Tn:∀(k:Nd)(s:CS)(e:AB),k.size≤z→CU p s e k=CU p' s e k
 |.nil,_,_,_=>rfl
 |.cons op ln co tx nm k r,s,e,h=>by
   rw[Gg] at h;have D:∀s e,CU p s e r=CU p' s e r:=λs e=>Tn r s e oM;simp only[CU,hp s e op ln co tx nm k (by omega),D]
end
theorem TF:∀(n n':Nat)(k:Nd),k.size<n→k.size<n'→∀(s:CS)(e:AB)(op ln co:Int)(tx:lU)(nm:Int),BM n s e op ln co tx nm k=BM n' s e op ln co tx nm k
 |0,_,_,h,_=>by cases h
 |_+1,0,_,_,h=>by cases h
 |n+1,n'+1,k,h,G=>λs e op ln co tx nm=>by
   have hp:CgP k.size (BM n) (BM n'):=λs e op ln co tx nm q J=>TF n n' q oM oM s e op ln co tx nm;have D:∀s e a,Dx (BM n) s e a k=Dx (BM n') s e a k:=λs e a=>U7 hp k s e a (Nat.le_refl _);have F:∀s e,CU (BM n) s e k=CU (BM n') s e k:=λs e=>Tn hp k s e (Nat.le_refl _);simp only[BM,CE,D,F]
theorem WY{z:Nat}{p p':Hq}(hp:CgF z p p')(Q:z≤n)(L:z≤n'){e:AB}{pt:T1}:∀(k:Nd)(s:CS)(t:Option T1),k.size≤z→BY n p e pt s t k=BY n' p' e pt s t k
 |.nil,_,_,_=>rfl
 |.cons _ _ _ _ _ .nil r,s,t,h=>rfl
 |.cons _ _ _ _ _ (.cons op ln co tx nm O .nil) r,s,t,h=>rfl
 |.cons _ _ _ _ _ (.cons op ln co tx nm O (.cons D F G J K bk q)) r,s,t,h=>by
   simp only[Gg] at h;have U:∀s t,BY n p e pt s t r=BY n' p' e pt s t r:=λs t=>WY hp Q L r s t oM;have W:∀s e,p s e D F G J K bk=p' s e D F G J K bk:=λs e=>hp s e D F G J K bk oM;simp only[BY,TF n n' O (by omega) (by omega) s e op ln co tx nm,U,W]
theorem Q8:∀{k:Nd}{b:N},k.last=some b→b.kids.size<k.size
 |.cons op ln co tx nm k .nil,b,h=>by cases h;rw[Gg];show k.size<_;omega
 |.cons op ln co tx nm k (.cons o l c x m k2 r),b,h=>by
   have:=Q8 (k:=.cons o l c x m k2 r) h;rw[Gg];omega
theorem jO{p p':Hq}(hp:CgF k.size p p')(hn:k.size≤n)(J:k.size≤n')(s:CS)(e:AB)(op ln co:Int)(tx:lU):AQ n p s e op ln co tx k=AQ n' p' s e op ln co tx k:=by
 have h1:∀s a,Dt p e s a k=Dt p' e s a k:=λs a=>Yi hp k s a (Nat.le_refl _);have h2:∀s,CA p e s k=CA p' e s k:=λs=>WQ hp k s (Nat.le_refl _);unfold AQ;simp only[h1,h2]
 cases k with
 |nil=>rfl
 |cons o l c x m k1 r =>
   have hs:(Nd.cons o l c x m k1 r).size=k1.size+r.size+1:=rfl;have K:p s e o l c x m k1=p' s e o l c x m k1:=hp _ _ _ _ _ _ _ _ oM;have h4:∀s t,EU p e s t r=EU p' e s t r:=λs t=>aH hp r s t oM;have L:EG p s e ln co tx o l c x m k1=EG p' s e ln co tx o l c x m k1:=vY hp oM;have h6:∀pt s t,BY n p e pt s t r=BY n' p' e pt s t r:=λpt s t=>WY hp hn J r s t oM;have O:Br (n+1) o k1=Br (n'+1) o k1:=ON _ _ _ _ oM oM;have h8:∀b,(Nd.cons o l c x m k1 r).last=some b→∀s e,p s e b.op b.ln b.co b.tx b.nm b.kids=p' s e b.op b.ln b.co b.tx b.nm b.kids:=λb Q s e=>hp _ _ _ _ _ _ _ _ (Q8 Q);simp only[K,h4,L,h6,O]
   have hr:r=.nil∨∃h D c2 F m2 k2 G,r=.cons h D c2 F m2 k2 G:=by
     cases r with
     |nil=>exact .inl C
     |cons=>exact .inr ⟨_,_,_,_,_,_,_,C⟩
   rcases Q:(Nd.cons o l c x m k1 r).last with _|b
   all_goals
     try simp only[h8 _ Q]
     rcases hr with rfl|⟨h,D,c2,F,m2,k2,G,rfl⟩
     · rfl
     · have hs2:(Nd.cons h D c2 F m2 k2 G).size=k2.size+G.size+1:=rfl
       have i1:∀s e,p s e h D c2 F m2 k2=p' s e h D c2 F m2 k2:=λs e=>hp _ _ _ _ _ _ _ _ oM;simp only[i1,K,L,O]
       cases G with
       |nil=>rfl
       |cons U W c3 Y m3 k3 Z =>
         have hs3:(Nd.cons U W c3 Y m3 k3 Z).size=k3.size+Z.size+1:=rfl;have i2:∀s e,p s e U W c3 Y m3 k3=p' s e U W c3 Y m3 k3:=λs e=>hp _ _ _ _ _ _ _ _ oM;simp only[i2,i1,K,L,O]
theorem SF:∀(n n':Nat)(k:Nd),k.size<n→k.size<n'→∀(s:CS)(e:AB)(op ln co:Int)(tx:lU)(nm:Int),AJ n s e op ln co tx nm k=AJ n' s e op ln co tx nm k
 |0,_,_,h,_=>by cases h
 |_+1,0,_,_,h=>by cases h
 |n+1,n'+1,k,h,D=>λs e op ln co tx nm=>by
   have hp:CgF k.size (AJ n) (AJ n'):=λs e op ln co tx nm q F=>SF n n' q oM oM s e op ln co tx nm;simp only[AJ,jO hp (by omega:k.size≤n) (by omega:k.size≤n') s e op ln co tx]
theorem Py:∀k:Nd,k.fre []=true
 |.nil=>rfl
 |.cons op ln co tx nm k r=>by simp only[Nd.fre,Py k,Py r];simp
theorem wE(n:Int):E0 0 n=n:=by unfold E0;split <;> omega
theorem Rp:∀x:Ty,x.sh 0=x
 |.nil=>rfl
 |.var n r=>by rw[Ty.sh,wE,Rp r]
 |.con tx k r=>by rw[Ty.sh,Rp k,Rp r]
theorem XL(t:T1):t.sh 0=t:=by
 cases t with
 |var n=>rw[T1.sh,wE]
 |con tx k=>rw[T1.sh,Rp]
theorem lX(b:Bk):b.map (λp=>(E0 0 p.1,p.2.sh 0))=b:=by
 rw[show (λp:Int×T1=>(E0 0 p.1,p.2.sh 0))=id from funext λp=>by rw[wE,XL];rfl,List.map_id]
def Je(w:lU)(r:RI (T1×CS)):Prop:=match r with
 |.error e=>e.2.2=4
 |.ok (t,s)=>∃f,fullS s.sol t=some f∧De f=w
variable {s':CS}{c1 c2 c3 c4 d l1 l2 l3 l4 m1 m2 m3:Int}{k':Nd}
theorem GS{s1:CS}{e:AB}{op nm:Int}{tx:lU}{k:Nd}{t f:T1}{w:lU}(h:AQ n (AJ n) s e op ln co tx k=.ok (t,s1))(hf:fullS s1.sol t=some f)(hw:De f=w):Je w (AJ (n+1) s e op ln co tx nm k):=by
 unfold AJ Ds;rw[h];simp only[hf];exact⟨f,hf,hw⟩
theorem Sa{e:AB}{op l c nm:Int}{tx w:lU}{k:Nd}(h:AQ n (AJ n) s e op ln co tx k=.error (l,c,4)):Je w (AJ (n+1) s e op ln co tx nm k):=by
 unfold AJ;rw[h];exact C
theorem bK:Di 0 [] ES ES:=⟨⟨C,λ_=>C,tQ,tQ⟩,C,dC,C,C,C,C,Mc,dC⟩
section
variable{o l c m:Int}{x:lU}{k:Nd}{t f:T1}{s1:CS}(h:AJ (k.size+1) ES B5 o l c x m k=.ok (t,s1))
include h
theorem Pq(hd:0≤d){b0:Bk}(G:Di d b0 ES s')(F:k.er=k'.er)(J:k'.size<n)(l' c':Int):∃D,AJ n s' B5 o l' c' x m k'=.ok (t.sh d,D)∧Di d b0 s1 D:=by
 obtain⟨D,K,L⟩:=X8 hd (ex:=[]) (λ_ h=>by cases h) (k.size+1) G (⟨[],C,C⟩:FE d [] B5 B5) F (Py k) (by simp) h (ln':=l') (co':=c');exact⟨D,by rw[SF n (k.size+1) k' J (by have:=nQ F;omega)];exact K,L⟩
theorem Sd:Lz s1.sol:=by
 obtain⟨_,_,D⟩:=Pq h (Int.le_refl 0) bK C (Nat.lt_succ_self _) l c;exact D.sol.w
theorem Xj(J:k.er=k'.er)(K:k'.size<n)(l' c':Int):AJ n ES B5 o l' c' x m k'=.ok (t,s1):=by
 obtain⟨F,L,D⟩:=Pq h (Int.le_refl 0) bK J K l' c'
 have e:F=s1:=by
   have a1:=D.sol.eq;have a2:=D.fr;have a3:=D.cons;have a4:=D.datas;have a5:=D.roots;have G:=D.vars;rw[lX,List.append_nil] at a1
   cases s1;cases F
   simp only at a1 a2 a3 a4 a5 G;subst a1 a3 a4 a5 G;rw[a2,Int.add_zero]
 rw[L,e,XL]
variable(hw:FK o k)
include hw
theorem Ri:Cn s1∧0≤s1.fresh∧t.one.on (AX s1.fresh)=true:=Xo _ uV iZ hw h
theorem nO:Di s1.fresh s1.sol ES s1:=by
 obtain⟨F,_,_⟩:=Ri h hw;have hf:=Kz IL _ h;refine⟨⟨C,λn=>?_,tQ,Sd h⟩,by show s1.fresh=0+s1.fresh;omega,Int.le_refl _,hf.1,hf.2.1,hf.2.2.1,hf.2.2.2,Mc,dC⟩
 cases G:A8 s1.sol (E0 s1.fresh n) with
 |none=>rfl
 |some u =>
   have D:=(F.sol _ u G).1;have J:=F.f0;simp only[AX,Bool.and_eq_true,decide_eq_true_eq] at D;unfold E0 at D
   split at D <;> omega
omit hw
variable(hf:fullS s1.sol t=some f)
include hf
theorem gA{nm:Int}{D tx:lU}(F:k.er=k'.er)(G:k'.size<n):Je (De f) (AJ (n+1) ES B5 12 ln co tx nm (.cons 1 l1 c1 D m1 .nil (.cons o l2 c2 x m k' .nil))):=by
 obtain⟨n,rfl⟩:∃q,n=q+1:=⟨n-1,oM⟩;have J:AJ (n+1) ES B5 1 l1 c1 D m1 .nil=.ok (c0 bI,ES):=rfl;refine GS (t:=t) (s1:=s1) ?_ hf C
 show ((match CA (AJ (n+1)) B5 ES (.cons 1 l1 c1 D m1 .nil (.cons o l2 c2 x m k' .nil)) with
   |.error x=>.error x
   |.ok (l,s1)=>.ok (l.last,s1)):RI (T1×CS))=_
 simp only[CA,J,Xj h F G]
 cases t <;> rfl
theorem VZ{nm:Int}{tx:lU}(D:k.er=k'.er)(F:k'.size<n):Je (De f) (AJ (n+1) ES B5 17 ln co tx nm (.cons o l2 c2 x m k' .nil)) :=
 GS (t:=t) (s1:=s1) (Xj h D F l2 c2) hf C
theorem YA{nm:Int}{D G F tx:lU}(J:k.er=k'.er)(K:k'.size<n):Je (De f) (AJ (n+1) ES B5 14 ln co tx nm (.cons 1 l1 c1 D m1 .nil (.cons 18 l2 c2 G m2 (.cons 21 l3 c3 F m3 .nil (.cons o l4 c4 x m k' .nil)) .nil))):=by
 obtain⟨n,rfl⟩:∃q,n=q+1:=⟨n-1,oM⟩;have L:AJ (n+1) ES B5 1 l1 c1 D m1 .nil=.ok (c0 bI,ES):=rfl;have O:BM (n+1) ES B5 21 l3 c3 F m3 .nil=.ok (.var 1,B5,{ES with fresh:=1}):=rfl;have Q:Da {ES with fresh:=1} (c0 bI) (.var 1) l3 c3=.ok {ES with fresh:=1,sol:=[(1,c0 bI)]}:=kR
 have U:Di 1 [(1,c0 bI)] ES {ES with fresh:=1,sol:=[(1,c0 bI)]}:=⟨⟨C,λq=>by
   show A8 [(1,c0 bI)] (E0 1 q)=none;simp only[A8];rw[if_neg (by simp only[beq_iff_eq];unfold E0;split <;> omega)],tQ,⟨C,(λq W=>by cases W),tQ⟩⟩,C,dC,C,C,C,C,Mc,dC⟩
 obtain⟨s2,i1,i2⟩:=Pq h (d:=1) dC U J K l4 c4;refine GS (t:=t.sh 1) (s1:=s2) (f:=f.sh 1) ?_ (by rw[i2.sol.fullS (by decide),hf];rfl) (Ta dC f)
 show ((match AJ (n+1) ES B5 1 l1 c1 D m1 .nil with
   |.error x=>.error x
   |.ok (t,s1)=>BY (n+1) (AJ (n+1)) B5 t s1 none (.cons 18 l2 c2 G m2 (.cons 21 l3 c3 F m3 .nil (.cons o l4 c4 x m k' .nil)) .nil)):RI (T1×CS))=_
 simp only[L,BY,O,Q,i1];rfl
include hw
theorem lZ{nm:Int}{tx:lU}{k2 k3:Nd}(F:k.er=k2.er)(G:k2.size<n)(J:k.er=k3.er)(K:k3.size<n):Je (De f) (AJ (n+1) ES B5 11 ln co tx nm (.cons 6 l1 c1 [84,114,117,101] m1 .nil (.cons o l2 c2 x m k2 (.cons o l3 c3 x m k3 .nil)))):=by
 obtain⟨n,rfl⟩:∃q,n=q+1:=⟨n-1,oM⟩;obtain⟨L,hd,O⟩:=Ri h hw;have D:=Sd h;have Z:AJ (n+1) ES B5 6 l1 c1 [84,114,117,101] m1 .nil=.ok (c0 bB,ES):=rfl;have h2:Da ES (c0 bB) (c0 bB) l1 c1=.ok ES:=kR;have h3:=Xj h F G l2 c2;obtain⟨s2,i1,i2⟩:=Pq h hd (nO h hw) J K l3 c3;have Q:s2.sol=BX s1.fresh s1.sol []:=i2.sol.eq
 have key:AQ (n+1) (AJ (n+1)) ES B5 11 ln co tx (.cons 6 l1 c1 [84,114,117,101] m1 .nil (.cons o l2 c2 x m k2 (.cons o l3 c3 x m k3 .nil)))=match Da s2 t (t.sh s1.fresh) l3 c3 with
     |.error x=>.error x
     |.ok U=>.ok (t,U):=by
   show ((match AJ (n+1) ES B5 6 l1 c1 [84,114,117,101] m1 .nil with
     |.error x=>.error x
     |.ok (t,s1)=>match Da s1 (c0 bB) t l1 c1 with
       |.error x=>.error x
       |.ok s2=>match AJ (n+1) s2 B5 o l2 c2 x m k2 with
         |.error x=>.error x
         |.ok (t2,s3)=>match AJ (n+1) s3 B5 o l3 c3 x m k3 with
           |.error x=>.error x
           |.ok (t3,s4)=>match Da s4 t2 t3 l3 c3 with
             |.error x=>.error x
             |.ok U=>.ok (t2,U)):RI (T1×CS))=_
   simp only[Z,h2,h3,i1]
 have hX:yL s1.fresh s1.sol []:=⟨(λ_ h=>by cases h),Q▸i2.sol.w'⟩;rcases Ig L.sol D 10000 t.one hX O with ⟨X,W,hu⟩|hu
 · have Y:Da s2 t (t.sh s1.fresh) l3 c3=.ok {s2 with sol:=BX s1.fresh s1.sol X}:=by unfold Da DY;rw[Q,← DX,hu]
   rw[Y] at key;exact GS key (mD L.sol D W O hf) (PC (p:=AX s1.fresh) (λa b ha hb=>rH a b ha hb) (Lq L.sol O hf))
 · have Y:Da s2 t (t.sh s1.fresh) l3 c3=.error (l3,c3,4):=by unfold Da DY;rw[Q,← DX,hu]
   rw[Y] at key;exact Sa key
end
theorem U6:∀(l:List Int)(s:CS)(i:Nat),i<l.length→(AL l s).1.get i=some (.var (s.fresh+1+i))
 |_::l,s,0,_=>by show some (T1.var (s.fresh+1))=_;simp
 |_::l,s,i+1,h=>by
   have D:=U6 l (Au s).2 i (Nat.lt_of_succ_lt_succ h);show (AL l (Au s).2).1.get i=_;rw[D];show some (T1.var (s.fresh+1+1+i))=_;rw[show s.fresh+1+1+(i:Int)=s.fresh+1+((i+1:Nat):Int) by omega]
def gN(vs:List Int)(d v:Int):Int:=match C1 vs v with
 |some i=>d+1+i
 |none=>v
theorem L3(vs:List Int)(s:CS):∀x:Ty,C2 vs (AL vs s).1 x=x.ren (gN vs s.fresh)
 |.nil=>rfl
 |.con tx k r=>by simp only[C2,Ty.ren,L3 vs s k,L3 vs s r]
 |.var n r=>by
   simp only[C2,Ty.ren,gN,L3 vs s r]
   cases D:C1 vs n with
   |none=>rfl
   |some i=>simp only[Option.bind_some,U6 vs s i (WL D),T1.cons]
theorem Z4(vs:List Int)(s:CS)(t:T1):Cf t vs (AL vs s).1=t.ren (gN vs s.fresh):=by
 unfold Cf;rw[L3]
 cases t <;> rfl
theorem qL{vs:List Int}(a b:Int)(G:AX d a=true)(J:AX d b=true)(h:gN vs d a=gN vs d b):a=b:=by
 simp only[AX,Bool.and_eq_true,decide_eq_true_eq] at G J;unfold gN at h
 cases F:C1 vs a with
 |none =>
   rw[F] at h
   cases D:C1 vs b with
   |none=>rw[D] at h;exact h
   |some j=>rw[D] at h;simp only at h;omega
 |some i =>
   rw[F] at h
   cases D:C1 vs b with
   |none=>rw[D] at h;simp only at h;omega
   |some j =>
     rw[D] at h;simp only at h;have e:i=j:=oM;subst e;have g1:=(Il F).2.2;have g2:=(Il D).2.2;rw[g1] at g2
     cases g2;rfl
theorem MA{g:Int→Int}{p q:Int→Bool}(h:∀v,p v=true→q (g v)=true):∀x:Ty,x.on p=true→(x.ren g).on q=true
 |.nil,_=>rfl
 |.var n r,D=>by simp only[Ty.on,Bool.and_eq_true] at D;simp only[Ty.ren,Ty.on,h n D.1,MA h r D.2,Bool.and_true]
 |.con _ k r,D=>by simp only[Ty.on,Bool.and_eq_true] at D;simp only[Ty.ren,Ty.on,MA h k D.1,MA h r D.2,Bool.and_true]
abbrev unb(b:Bk):Int→Bool:=λv=>(A8 b v).isNone
theorem JP{b:Bk}(hw:Lz b):∀(k:Nat)(x:Ty),(AE b k x).on (unb b)=true
 |k,.nil=>by cases k <;> rfl
 |0,.var _ _=>rfl
 |0,.con _ _ _=>rfl
 |k+1,.con tx D r=>by simp only[AE,Ty.on,JP hw k D,JP hw k r,Bool.and_true]
 |k+1,.var n r=>by
   simp only[AE]
   split
   · rename_i m hm
     simp only[Ty.on,JP hw k r,Bool.and_true];show (A8 b m).isNone=true;rw[DK hw hm];rfl
   · simp only[Ty.on,JP hw k,Bool.and_true]
theorem PZ{b:Bk}(hw:Lz b){t f:T1}(h:fullS b t=some f):f.one.on (unb b)=true:=by
 unfold fullS at h
 split at h
 · rename_i D
   cases h
   refine NO (JP hw _ _) ?_;rw[GV _ _ D]
   cases t <;> exact Nat.zero_lt_succ _
 · cases h
theorem OH{b:Bk}{t f:T1}(D:t.one.on (unb b)=true)(h:fullS b t=some f):f=t:=by
 unfold fullS at h
 split at h
 · rename_i F
   cases h
   rw[Mh _ _ D F]
   cases t <;> rfl
 · cases h
section
variable{o l c m:Int}{x:lU}{k:Nd}{t f:T1}{s1:CS}(h:AJ (k.size+1) ES B5 o l c x m k=.ok (t,s1))(hw:FK o k)(hf:fullS s1.sol t=some f)
include h hw hf
theorem bT{z:lU}{u:T1}(all:List Int)(hu:∀g,fullS s1.sol u=some g→g=f)(l3 c3 m3:Int) :
   (∃l c,AJ (n+1) s1 (⟨z,u,all⟩::B5) 5 l3 c3 z m3 .nil=.error (l,c,4))∨∃t2 s2,AJ (n+1) s1 (⟨z,u,all⟩::B5) 5 l3 c3 z m3 .nil=.ok (t2,s2)∧fullS s2.sol t2=some t2∧De t2=De f:=by
 obtain⟨O,hd,Z⟩:=Ri h hw;have Q:=Sd h;have G:=Lq O.sol Z hf;have U:=PZ Q hf;have J:AQ n (AJ n) s1 (⟨z,u,all⟩::B5) 5 l3 c3 z .nil=El s1 (⟨z,u,all⟩::B5) z l3 c3:=rfl;have K:Ed (⟨z,u,all⟩::B5) z=some ⟨z,u,all⟩:=by unfold Ed;rw[if_pos (by simp)]
 cases D:fullS s1.sol u with
 |none =>
   refine .inl ⟨l3,c3,?_⟩;unfold AJ;rw[J];unfold El Ds;rw[K];simp only[D]
 |some g =>
   obtain rfl:=hu g D
   have L:El s1 (⟨z,u,all⟩::B5) z l3 c3=.ok (g.ren (gN ((Ak g).filter λv=>all.contains v) s1.fresh),(AL ((Ak g).filter λv=>all.contains v) s1).2):=by
     unfold El Ds;rw[K];simp only[D,Z4]
   obtain⟨_,_,_,n4,_⟩:=LU ((Ak g).filter λv=>all.contains v) s1 O.f0;generalize hvs:((Ak g).filter λv=>all.contains v)=vs at L n4
   have W:(g.ren (gN vs s1.fresh)).one.on (unb s1.sol)=true:=by
     rw[← RR];refine MA (p:=λv=>AX s1.fresh v&&unb s1.sol v) (λv Y=>?_) _ (Oh _ G U);simp only[Bool.and_eq_true] at Y;unfold gN
     split
     · rename_i i _
       show (A8 s1.sol (s1.fresh+1+i)).isNone=true
       cases L:A8 s1.sol (s1.fresh+1+i) with
       |none=>rfl
       |some q =>
         have:=(O.sol _ q L).1;simp only[AX,Bool.and_eq_true,decide_eq_true_eq] at this;omega
     · exact Y.2
   cases F:fullS s1.sol (g.ren (gN vs s1.fresh)) with
   |none =>
     refine .inl ⟨l3,c3,?_⟩;unfold AJ;rw[J,L];unfold Ds;simp only[n4,F]
   |some g2 =>
     obtain rfl:=OH W F;refine .inr ⟨_,_,?_,by rw[n4];exact F,PC (p:=AX s1.fresh) (λa b ha J=>qL a b ha J) G⟩;unfold AJ;rw[J,L];unfold Ds;simp only[n4,F]
theorem ZV{nm:Int}{z:lU}(hz:(z==[95])=false)(F:k.er=k'.er)(Q:k'.size<n):Je (De f) (AJ (n+1) ES B5 9 ln co z nm (.cons o l2 c2 x m k' (.cons 5 l3 c3 z m3 .nil .nil))):=by
 obtain⟨n,rfl⟩:∃q,n=q+1:=⟨n-1,oM⟩;have J:=Sd h;have U:=Xj h F Q l2 c2
 have key:∀D,DG s1 B5 z t (Br (n+1+1) o k') ln co=.ok D→AQ (n+1) (AJ (n+1)) ES B5 9 ln co z (.cons o l2 c2 x m k' (.cons 5 l3 c3 z m3 .nil .nil))=AJ (n+1) s1 D 5 l3 c3 z m3 .nil:=by
   intro D he
   show ((match AJ (n+1) ES B5 o l2 c2 x m k' with
     |.error x=>.error x
     |.ok (t,s1)=>match (if z==[95] then .ok B5 else DG s1 B5 z t (Br (n+1+1) o k') ln co) with
       |.error x=>.error x
       |.ok D=>AJ (n+1) s1 D 5 l3 c3 z m3 .nil):RI (T1×CS))=_
   simp only[U,hz,Bool.false_eq_true,if_false,he]
 have fin:∀(u:T1)(all:List Int),(∀g,fullS s1.sol u=some g→g=f)→DG s1 B5 z t (Br (n+1+1) o k') ln co=.ok (⟨z,u,all⟩::B5)→Je (De f) (AJ (n+1+1) ES B5 9 ln co z nm (.cons o l2 c2 x m k' (.cons 5 l3 c3 z m3 .nil .nil))):=by
   intro u all hu he;have F:=key _ he;rcases bT h hw hf (n:=n) (z:=z) all hu l3 c3 m3 with ⟨l,c,K⟩|⟨t2,s2,K,W,Y⟩
   · exact Sa (F.trans K)
   · exact GS (F.trans K) W Y
 have L:Ds s1 t ln co=.ok f:=by unfold Ds;rw[hf]
 cases O:Br (n+1+1) o k' with
 |true=>exact fin f _ (λg G=>OH (PZ J hf) G) (by unfold DG;rw[O,if_pos C,L])
 |false=>exact fin t [] (λg G=>by rw[hf] at G;cases G;rfl) (by unfold DG;rw[O,if_neg (by decide)])
end
theorem Wm{n:Nat}{s1:CS}{e:AB}{op nm:Int}{tx:lU}{k:Nd}{t:T1}{w:lU}(h:AQ n (AJ n) s e op ln co tx k=.ok (t,s1))(hf:∀f,fullS s1.sol t=some f→De f=w):Je w (AJ (n+1) s e op ln co tx nm k):=by
 cases D:fullS s1.sol t with
 |none =>
   unfold AJ Ds;rw[h];simp only[D];exact C
 |some g=>exact GS h D (hf g D)
theorem UH(n:Int):De (.var n)=[39,97]:=by
 unfold De Ak;simp only[T1.one,T1.cons,BZ];simp[C4,C1,DM]
theorem Kr{p:Int→Bool}{b:Bk}(hb:Ea p b){n:Int}(hn:p n=false):∀(k:Nat)(x:Ty),x.on p=true→BB b n k x=true
 |k,.nil,_=>by cases k <;> rfl
 |0,.var _ _,_=>rfl
 |0,.con _ _ _,_=>rfl
 |k+1,.con tx G r,h=>by
   simp only[Ty.on,Bool.and_eq_true] at h;simp only[BB,Kr hb hn k _ (Hs _ _ h.1 h.2)]
 |k+1,.var q r,h=>by
   simp only[Ty.on,Bool.and_eq_true] at h;have D:=FA hb (t:=.var q) (Cd.trans h.1);simp only[BB]
   cases F:Af b (.var q) with
   |var m =>
     rw[F,Cd] at D;simp only[Kr hb hn k r h.2,Bool.and_true,Bool.not_eq_true',beq_eq_false_iff_ne,ne_eq];intro e;rw[e,hn] at D;cases D
   |con tx G=>rw[F,CG] at D;simp only[Kr hb hn k _ (Hs _ _ D h.2)]
section
variable{p:Int→Bool}{b:Bk}(hb:Ea p b)(hw:Lz b){n:Int}{u:T1}(hw2:Lz ((n,u)::b))(hu:Af b u=u)(hn:p n=false)
include hb hw hw2 hu hn
theorem aX{t:T1}(F:t.one.on p=true):Af ((n,u)::b) t=Af b t:=by
 rw[YM hw hw2 hu _ t (Nat.le_refl _)];have D:=FA hb F
 cases G:Af b t with
 |con tx J=>rfl
 |var m =>
   rw[G,Cd] at D;exact QR u λe=>by rw[e,hn] at D;cases D
theorem It:∀(k:Nat)(x:Ty),x.on p=true→AE ((n,u)::b) k x=AE b k x
 |k,.nil,_=>by cases k <;> rfl
 |0,.var _ _,_=>rfl
 |0,.con _ _ _,_=>rfl
 |k+1,.con tx D r,h=>by
   simp only[Ty.on,Bool.and_eq_true] at h;simp only[AE,It k D h.1,It k r h.2]
 |k+1,.var q r,h=>by
   simp only[Ty.on,Bool.and_eq_true] at h;have F:=FA hb (t:=.var q) (Cd.trans h.1);simp only[AE,aX hb hw hw2 hu hn (t:=.var q) (Cd.trans h.1),It k r h.2]
   cases G:Af b (.var q) with
   |var m=>rfl
   |con tx D=>rw[G,CG] at F;simp only[It k D F]
end
theorem O3:∀x:Ty,x.sh d=x.ren (E0 d)
 |.nil=>rfl
 |.var n r=>by rw[Ty.sh,Ty.ren,O3 r]
 |.con tx k r=>by rw[Ty.sh,Ty.ren,O3 k,O3 r]
theorem Yo(hd:0≤d){v:Int}{w:T1}:∀{b:Bk},A8 (b.map (λp=>(E0 d p.1,p.2.sh d))) v=some w→∃n t,A8 b n=some t∧v=E0 d n∧w=t.sh d
 |(k,t)::b,h=>by
   simp only[List.map_cons,A8] at h
   split at h
   · rename_i e
     cases h
     exact⟨k,t,by simp[A8],(eq_of_beq e).symm,C⟩
   · rename_i e
     obtain⟨n,u,F,D,G⟩:=Yo hd h;refine⟨n,u,?_,D,G⟩;unfold A8;rw[if_neg (λJ=>e (by rw[eq_of_beq J,D];simp))];exact F
theorem MS{b:Bk}{t f:T1}(h:fullS b t=some f):f=match Af b t with
   |.var m=>.var m
   |.con tx D=>.con tx (AE b 999 D):=by
 unfold fullS at h
 split at h
 · cases h
   cases t with
   |con tx D=>rfl
   |var n =>
     show (AE b (999+1) (.var n .nil)).hd=_;simp only[AE]
     cases Af b (.var n) <;> rfl
 · cases h
theorem wI{p:Int→Bool}{b:Bk}(hb:Ea p b)(hw:Lz b){t f:T1}(ht:t.one.on p=true)(hf:fullS b t=some f){r:Int}(Q:p 1=false)(hr:p r=false)(U:r≠1) :
   DY b (.con D2 (.var 1 (.var 1 .nil))) (.con D2 (t.cons (.var r .nil)))=.error 4∨∃b3,DY b (.con D2 (.var 1 (.var 1 .nil))) (.con D2 (t.cons (.var r .nil)))=.ok b3∧∀g,fullS b3 (.var r)=some g→De g=De f:=by
 have e0:DY b (.con D2 (.var 1 (.var 1 .nil))) (.con D2 (t.cons (.var r .nil)))=BV (Bz 9998) b (Af b (.var 1)) (Af b t) (.var 1 .nil) (.var r .nil):=by
   show Bz (9999+1) b (.con D2 (.var 1 (.var 1 .nil)) .nil) (.con D2 (t.cons (.var r .nil)) .nil)=_;simp only[Bz,Ty.hd,Ty.tl,Fj,BV];rw[if_neg (by cases t <;> simp[T1.cons,Ty.len])];show Bz (9998+1) b (.var 1 (.var 1 .nil)) ((t.cons (.var r .nil)).app .nil)=_;simp only[Bz]
   cases t <;> rfl
 have hl:∀{q:Int},p q=false→A8 b q=none:=λ{q} hq=>by
   cases h:A8 b q with
   |none=>rfl
   |some v=>have:=(hb q v h).1;rw[hq] at this;cases this
 have F:=FA hb ht;have W:=Hi hw t;have L:=MS hf;rw[e0,AK (hl Q)]
 cases hh:Af b t with
 |var q =>
   rw[hh] at F W L;rw[Cd] at F;have hq1:q≠1:=λe=>by rw[e,Q] at F;cases F
   have Y:q≠r:=λe=>by rw[e,hr] at F;cases F
   have hlq:=DK hw hh;simp only[BV];rw[if_neg (by simpa using λe:(1:Int)=q=>hq1 e.symm)];unfold BG
   by_cases hs:D0 b (.var q)=true
   · have G:BB b 1 1000 (T1.var q).one=true:=Kr hb Q _ _ (Cd.trans F)
     rw[if_pos hs,if_pos G];have hw2:Lz ((1,.var q)::b):=I5 hw (hl Q) W G;have l1:A8 ((1,T1.var q)::b) 1=some (.var q):=by simp[A8]
     have lq:A8 ((1,T1.var q)::b) q=none:=by unfold A8;rw[if_neg (by simpa using λe:(1:Int)=q=>hq1 e.symm)];exact hlq
     have Z:A8 ((1,T1.var q)::b) r=none:=by unfold A8;rw[if_neg (by simpa using λe:(1:Int)=r=>U e.symm)];exact hl hr
     have e1:Bz 9998 ((1,T1.var q)::b) (.var 1 .nil) (.var r .nil)=BV (Bz 9997) ((1,T1.var q)::b) (.var q) (.var r) .nil .nil:=by
       show Bz (9997+1) _ _ _=_;simp only[Bz,Ty.hd,Ty.tl];rw[BH hw2 l1,AK lq,AK Z]
     simp only[e1,BV];rw[if_neg (by simpa using Y)];unfold BG
     by_cases J:D0 ((1,T1.var q)::b) (.var r)=true
     · have O:BB ((1,T1.var q)::b) q 1000 (T1.var r).one=true:=by
         show BB _ q (999+1) (.var r .nil)=true;simp only[BB,AK Z];simpa using λe:r=q=>Y e.symm
       rw[if_pos J,if_pos O];refine .inr ⟨(q,.var r)::(1,.var q)::b,C,λg hg=>?_⟩;have lr3:A8 ((q,T1.var r)::(1,T1.var q)::b) r=none:=by unfold A8;rw[if_neg (by simpa using Y)];exact Z
       rw[MS hg,AK lr3,L,UH,UH]
     · rw[if_neg J];exact .inl C
   · rw[if_neg hs];exact .inl C
 |con tx D =>
   rw[hh] at F W L;simp only[BV];unfold BG
   by_cases hs:D0 b (.con tx D)=true
   · have G:BB b 1 1000 (T1.con tx D).one=true:=Kr hb Q _ _ F
     rw[if_pos hs,if_pos G];have hw2:Lz ((1,.con tx D)::b):=I5 hw (hl Q) C G;have l1:A8 ((1,T1.con tx D)::b) 1=some (.con tx D):=by simp[A8]
     have Z:A8 ((1,T1.con tx D)::b) r=none:=by unfold A8;rw[if_neg (by simpa using λe:(1:Int)=r=>U e.symm)];exact hl hr
     have e1:Bz 9998 ((1,T1.con tx D)::b) (.var 1 .nil) (.var r .nil)=BV (Bz 9997) ((1,T1.con tx D)::b) (.con tx D) (.var r) .nil .nil:=by
       show Bz (9997+1) _ _ _=_;simp only[Bz,Ty.hd,Ty.tl];rw[BH hw2 l1,AK Z];rfl
     simp only[e1,BV];unfold BG
     by_cases J:D0 ((1,T1.con tx D)::b) (.con tx D)=true
     · have hb2:Ea (λv=>p v||v==1) ((1,T1.con tx D)::b):=by
         intro v w K;unfold A8 at K
         split at K
         · rename_i e;cases K;exact⟨by simp[← eq_of_beq e],EY (λv K=>by simp[K]) _ F⟩
         · exact (Ea.imp (q:=λv=>p v||v==1) (λv K=>by simp[K]) hb) v w K
       have hr2:(λv=>p v||v==1) r=false:=by simp[hr,U]
       have ho2:(T1.con tx D).one.on (λv=>p v||v==1)=true:=EY (λv K=>by simp[K]) _ F;have O:BB ((1,T1.con tx D)::b) r 1000 (T1.con tx D).one=true:=Kr hb2 hr2 _ _ ho2;rw[if_pos J,if_pos O];have hw3:Lz ((r,.con tx D)::(1,.con tx D)::b):=I5 hw2 Z C O;refine .inr ⟨(r,.con tx D)::(1,.con tx D)::b,C,λg hg=>?_⟩;have l3:A8 ((r,T1.con tx D)::(1,T1.con tx D)::b) r=some (.con tx D):=by simp[A8]
       have eg:=MS hg;rw[BH hw3 l3] at eg;have eg:g=.con tx (AE ((r,.con tx D)::(1,.con tx D)::b) 999 D):=eg;rw[eg,L,It hb2 hw2 hw3 C hr2 999 D (CG.symm.trans ho2),It hb hw hw2 C Q 999 D (CG.symm.trans F)]
     · rw[if_neg J];exact .inl C
   · rw[if_neg hs];exact .inl C
section
variable{o l c m:Int}{x:lU}{k:Nd}{t f:T1}{s1:CS}(h:AJ (k.size+1) ES B5 o l c x m k=.ok (t,s1))(hw:FK o k)(hf:fullS s1.sol t=some f)
include h hw hf
theorem fF{n:Nat}{nm:Int}{G tx:lU}(U:k.er=k'.er)(hn:k'.size<n)(W:3≤n) :
   Je (De f) (AJ (n+1) ES B5 8 ln co tx nm (.cons 7 l1 c1 G m1 (.cons 22 l2 c2 [120] m2 .nil (.cons 5 l3 c3 [120] m3 .nil .nil)) (.cons o l4 c4 x m k' .nil))):=by
 obtain⟨n,rfl⟩:∃q,n=q+3:=⟨n-3,oM⟩;have Y:AJ (n+3) ES B5 7 l1 c1 G m1 (.cons 22 l2 c2 [120] m2 .nil (.cons 5 l3 c3 [120] m3 .nil .nil))=.ok (.con D2 (.var 1 (.var 1 .nil)),{ES with fresh:=1}):=kR;have Z:Di 1 [] ES {ES with fresh:=1}:=⟨⟨C,λ_=>C,tQ,tQ⟩,C,dC,C,C,C,C,Mc,dC⟩;obtain⟨s2,i1,i2⟩:=Pq h (d:=1) dC Z U hn l4 c4;obtain⟨hc,hd,ht⟩:=Ri h hw;have hfr:s2.fresh=s1.fresh+1:=i2.fr
 have J:∀v,AX s1.fresh v=true→(λv=>decide (1<v)&&decide (v≤s1.fresh+1)) (E0 1 v)=true:=λv D=>by
   simp only[AX,Bool.and_eq_true,decide_eq_true_eq] at D;rw[show E0 1 v=v+1 from if_pos D.1];simp only[Bool.and_eq_true,decide_eq_true_eq];omega
 have K:Ea (λv=>decide (1<v)&&decide (v≤s1.fresh+1)) s2.sol:=λv w D=>by
   rw[i2.sol.eq,List.append_nil] at D;obtain⟨q,u,g1,rfl,rfl⟩:=Yo dC D;obtain⟨g2,g3⟩:=hc.sol q u g1;exact⟨J q g2,by rw[← DX,O3];exact MA J _ g3⟩
 have L:(t.sh 1).one.on (λv=>decide (1<v)&&decide (v≤s1.fresh+1))=true:=by rw[← DX,O3];exact MA J _ ht
 have O:fullS s2.sol (t.sh 1)=some (f.sh 1):=by rw[i2.sol.fullS (by decide),hf];rfl
 have F:=wI K i2.sol.w' L O (r:=s2.fresh+1) (by simp) (by simp only[Bool.and_eq_false_iff,decide_eq_false_iff_not];omega) oM
 have key:AQ (n+3) (AJ (n+3)) ES B5 8 ln co tx (.cons 7 l1 c1 G m1 (.cons 22 l2 c2 [120] m2 .nil (.cons 5 l3 c3 [120] m3 .nil .nil)) (.cons o l4 c4 x m k' .nil))=match Da (Au s2).2 (.con D2 (.var 1 (.var 1 .nil))) (.con D2 ((t.sh 1).cons (.var (s2.fresh+1) .nil))) l4 c4 with
     |.error x=>.error x
     |.ok s3=>.ok (.var (s2.fresh+1),s3):=by
   show ((match AJ (n+3) ES B5 7 l1 c1 G m1 (.cons 22 l2 c2 [120] m2 .nil (.cons 5 l3 c3 [120] m3 .nil .nil)) with
     |.error x=>.error x
     |.ok (t,s1)=>EU (AJ (n+3)) B5 s1 t (.cons o l4 c4 x m k' .nil)):RI (T1×CS))=_
   simp only[Y,EU,i1];rfl
 rcases F with hu|⟨b3,hu,hg⟩
 · have F:Da (Au s2).2 (.con D2 (.var 1 (.var 1 .nil))) (.con D2 ((t.sh 1).cons (.var (s2.fresh+1) .nil))) l4 c4=.error (l4,c4,4):=by
     unfold Da;rw[show (Au s2).2.sol=s2.sol from C,hu]
   rw[F] at key;exact Sa key
 · have F:Da (Au s2).2 (.con D2 (.var 1 (.var 1 .nil))) (.con D2 ((t.sh 1).cons (.var (s2.fresh+1) .nil))) l4 c4=.ok { (Au s2).2 with sol:=b3}:=by
     unfold Da;rw[show (Au s2).2.sol=s2.sol from C,hu]
   rw[F] at key;exact Wm key λg Q=>(hg g Q).trans (Ta dC f)
end
section
variable{ln co nm o l c m:Int}{tx x:lU}{k r:Nd}
theorem bM:DT ES B5 46 ln co tx (.cons o l c x m k r)=(match AJ (k.size+1) ES B5 o l c x m k with
   |.error e=>.error e
   |.ok (t,s)=>.ok (some ([],t),B5,s):RI (Option (lU×T1)×AB×CS)):=rfl
theorem Xx{t:T1}(h:AJ (k.size+1) ES B5 o l c x m k=.ok (t,s)):EA ES B5 (.cons 46 ln co tx nm (.cons o l c x m k r) .nil) []=.ok ([([],t)],s):=by
 rw[EA,bM,h];rfl
theorem WS{e:Er}(h:AJ (k.size+1) ES B5 o l c x m k=.error e):EA ES B5 (.cons 46 ln co tx nm (.cons o l c x m k r) .nil) []=.error e:=by
 rw[EA,bM,h]
theorem cT{out:List (lU×lU)}(h:CY (.cons 46 ln co tx nm (.cons o l c x m k r) .nil)=.ok out):∃t s1 f,AJ (k.size+1) ES B5 o l c x m k=.ok (t,s1)∧fullS s1.sol t=some f∧out=[([],De f)]:=by
 unfold CY at h
 cases D:AJ (k.size+1) ES B5 o l c x m k with
 |error e=>rw[WS D] at h;cases h
 |ok q =>
   obtain⟨t,s1⟩:=q;rw[Xx D] at h;simp only[Jn] at h
   split at h
   · cases h
   · rename_i f F
     cases h
     exact⟨t,s1,f,C,W2 F,C⟩
theorem jU{w:lU}(h:Je w (AJ (k.size+1) ES B5 o l c x m k)):(∃e,CY (.cons 46 ln co tx nm (.cons o l c x m k r) .nil)=.error e∧e.2.2=4)∨CY (.cons 46 ln co tx nm (.cons o l c x m k r) .nil)=.ok [([],w)]:=by
 unfold CY
 cases D:AJ (k.size+1) ES B5 o l c x m k with
 |error e =>
   rw[D] at h;rw[WS D];exact .inl ⟨e,C,h⟩
 |ok q =>
   obtain⟨t,s⟩:=q;rw[D] at h;obtain⟨f,F,G⟩:=h;rw[Xx D];refine .inr ?_;simp only[Jn,Ds,F,G]
end
def wM(f g:A4→Fo→R N):Prop:=∀t k a,f t k=.ok a→g t k=.ok a
theorem Mg{f g:A4→Fo→R N}(h:wM f g):∀(l:Fo)(x:Nd),AA f l=.ok x→AA g l=.ok x
 |.nil,_,D=>D
 |.cons t k r,x,D=>by
   unfold AA at D ⊢
   split at D
   · cases D
   · rename_i a F
     rw[h t k a F]
     split at D
     · cases D
     · rename_i b G
       simp only[Mg h r b G];exact D
theorem X9:∀n,wM (Dw n) (Dw (n+1))
 |0=>λt k a h=>by cases h
 |n+1=>λt k a h=>by
   have D:=Mg (X9 n);have e:∀l x,AA (Dw n) l=.ok x→AA (Dw (n+1)) l=.ok x:=D;unfold Dw at h ⊢;simp only[need] at h ⊢
   repeat' split at h
   all_goals first
     |(cases h;done)
     |(rename_i F;have G:=e _ _ F;simp_all;done)
     |(simp_all;done)
variable {m:Nat}
theorem jS{f g:A4→Fo→R N}(h:wM f g):wM (Fb n f) (Fb (n+1) g):=λt k a D=>by
 have F:=X9 n;unfold Fb at D ⊢;simp only[need] at D ⊢
 repeat' split at D
 all_goals first
   |(cases D;done)
   |(rename_i G _ _ _ J;have K:=F _ _ _ G;have L:=h _ _ _ J;simp_all;done)
   |(simp_all;done)
theorem cW{f g:A4→Fo→R N}(D:wM f g){t:A4}{w:lU}{l:Fo}{a:N}(J:Bf n f t w l=.ok a):Bf (n+1) g t w l=.ok a:=by
 have he:=Mg D;have K:=Mg (jS (n:=n) D);unfold Bf at J ⊢;simp only[need] at J ⊢
 repeat' split at J
 all_goals first
   |(cases J;done)
   |(rename_i F _ _ h;have L:=D _ _ _ F;have G:=D _ _ _ h;simp_all;done)
   |(rename_i F _ _ h;have L:=D _ _ _ F;have G:=K _ _ h;simp_all;done)
   |(rename_i h;have G:=D _ _ _ h;simp_all;done)
   |(rename_i F _ _ h _;have L:=D _ _ _ F;have G:=K _ _ h;simp_all;done)
   |(rename_i h _;have G:=D _ _ _ h;simp_all;done)
   |(rename_i h;have G:=he _ _ h;simp_all;done)
theorem Yh:∀n,wM (AO n) (AO (n+1))
 |0=>λt k a h=>by cases h
 |n+1=>λt k a h=>by
   have D:=Yh n;have he:=Mg D;unfold AO at h ⊢;simp only[need] at h ⊢
   repeat' split at h
   all_goals first
     |(cases h;done)
     |(rename_i F;have G:=he _ _ F;simp_all;done)
     |(have G:=cW (n:=n) D h;simp_all;done)
     |(simp_all;done)
theorem MH{t:A4}{k:Fo}{a:N}(h:AO n t k=.ok a):∀d,AO (n+d) t k=.ok a
 |0=>h
 |d+1=>Yh (n+d) t k a (MH h d)
theorem Iq{t:A4}{k:Fo}{a b:N}(h:AO n t k=.ok a)(D:AO m t k=.ok b):a=b:=by
 have g1:=MH h m;have g2:=MH D n;rw[Nat.add_comm] at g2;rw[g1] at g2
 cases g2;rfl
def UR:A4:=A4.er ⟨2,1,1,1,[]⟩
def Tt:A4:=A4.er ⟨6,1,1,0,[84,114,117,101]⟩
def Hh:lU:=[100,111]
def VI:lU:=[108,101,116]
def P1:lU:=[122,122,57]
def L6:lU:=[99,97,115,101]
def Tw:lU:=[105,102]
def xO:Fo:=.cons (Bw [102,110]) .nil (.cons Bo (.cons (Bw [120]) .nil .nil) (.cons (Bw [120]) .nil .nil))
theorem cM(l:List A4):Ar ([Bo,Bw Hh,Bo,Bw L6,UR,Bo,Bw [95]]++l) [] .nil=Ar l [(Bo,.cons (Bw L6) .nil (.cons UR .nil .nil)),(Bo,.cons (Bw Hh) .nil .nil),(Bo,.nil)] (.cons (Bw [95]) .nil .nil):=rfl
theorem eN(l:List A4):Ar ([Bo,Bw Hh,Bo,Bw Tw,Tt]++l) [] .nil=Ar l [(Bo,.cons (Bw Hh) .nil .nil),(Bo,.nil)] (.cons (Bw Tw) .nil (.cons Tt .nil .nil)):=rfl
section
variable{n:Nat}{b:A4}{bk:Fo}{x:Nd}
theorem iI(h:AA (Cj (n+4)) (.cons Bo (.cons (Bw Hh) .nil (.cons Bo (.cons Bo xO (.cons b bk .nil)) .nil)) .nil)=.ok x) :
   ∃E,AO (n+3) b bk=.ok E∧x=(Av Bo 46 [] (Av Bo 8 [] ((Av Bo 7 [] (.cons 22 0 0 [120] 0 .nil (.cons 5 0 0 [120] 0 .nil .nil))).cons E.one)).one).one:=by
 obtain⟨b2,G,E2,J,D,rfl⟩:=KL h
 cases J
 have e:AO (n+4) Bo (.cons Bo xO (.cons b bk .nil))=match AA (AO (n+3)) (.cons Bo xO (.cons b bk .nil)) with
   |.error e=>.error e
   |.ok K=>.ok (Av Bo 8 [] K):=rfl
 rw[e] at D;have L:AO (n+3) Bo xO=.ok (Av Bo 7 [] (.cons 22 0 0 [120] 0 .nil (.cons 5 0 0 [120] 0 .nil .nil))):=rfl;simp only[AA,L] at D
 cases F:AO (n+3) b bk with
 |error e=>rw[F] at D;cases D
 |ok E=>rw[F] at D;cases D;exact⟨E,C,C⟩
theorem iH(h:AA (Cj (n+2)) (.cons Bo (.cons (Bw Hh) .nil (.cons Bo (.cons (Bw VI) .nil (.cons (Bw P1) .nil (.cons b bk (.cons (Bw P1) .nil .nil)))) .nil)) .nil)=.ok x) :
   ∃E,AO (n+1) b bk=.ok E∧x=(Av Bo 46 [] (Av Bo 9 P1 (E.cons (.cons 5 0 0 P1 0 .nil .nil))).one).one:=by
 obtain⟨b2,G,E2,J,D,rfl⟩:=KL h
 cases J
 have e:AO (n+2) Bo (.cons (Bw VI) .nil (.cons (Bw P1) .nil (.cons b bk (.cons (Bw P1) .nil .nil))))=match AO (n+1) b bk with
   |.error e=>.error e
   |.ok x=>match AO (n+1) (Bw P1) .nil with
     |.error e=>.error e
     |.ok y=>.ok (Av Bo 9 P1 (x.cons y.one)):=rfl
 rw[e,show AO (n+1) (Bw P1) .nil=.ok ⟨5,0,0,P1,0,.nil⟩ from C] at D
 cases F:AO (n+1) b bk with
 |error e=>rw[F] at D;cases D
 |ok E=>rw[F] at D;cases D;exact⟨E,C,C⟩
theorem Zi(h:AA (Cj (n+2)) (.cons Bo (.cons (Bw Hh) .nil (.cons Bo (.cons (Bw L6) .nil (.cons UR .nil (.cons Bo (.cons (Bw [95]) .nil (.cons b bk .nil)) .nil))) .nil)) .nil)=.ok x) :
   ∃E,AO (n+1) b bk=.ok E∧x=(Av Bo 46 [] (Av Bo 14 [] (.cons 1 0 0 [] 1 .nil (.cons 18 0 0 [] 0 (.cons 21 0 0 [] 0 .nil E.one) .nil))).one).one:=by
 obtain⟨b2,J,E2,K,D,rfl⟩:=KL h
 cases K
 have e:AO (n+2) Bo (.cons (Bw L6) .nil (.cons UR .nil (.cons Bo (.cons (Bw [95]) .nil (.cons b bk .nil)) .nil)))=match AO (n+1) UR .nil with
   |.error e=>.error e
   |.ok x=>match AA (Fb (n+1) (AO (n+1))) (.cons Bo (.cons (Bw [95]) .nil (.cons b bk .nil)) .nil) with
     |.error e=>.error e
     |.ok F=>.ok (Av Bo 14 [] (x.cons F)):=rfl
 have L:Fb (n+1) (AO (n+1)) Bo (.cons (Bw [95]) .nil (.cons b bk .nil))=match AO (n+1) b bk with
   |.error e=>.error e
   |.ok x=>.ok (Av Bo 18 [] ((Av (Bw [95]) 21 [] .nil).cons x.one)):=rfl
 rw[e,show AO (n+1) UR .nil=.ok ⟨1,0,0,[],1,.nil⟩ from C] at D;simp only[AA,L] at D
 cases G:AO (n+1) b bk with
 |error e=>rw[G] at D;cases D
 |ok E=>rw[G] at D;cases D;exact⟨E,C,C⟩
theorem wX(l:Fo):AO (n+2) Bo (.cons (Bw Tw) .nil l)=need Bo ((l.len:Int)==3) (match AA (AO (n+1)) l with
   |.error e=>.error e
   |.ok h=>.ok (Av Bo 11 [] h)):=rfl
theorem jV(h:AA (Cj (n+2)) (.cons Bo (.cons (Bw Hh) .nil (.cons Bo (.cons (Bw Tw) .nil (.cons Tt .nil (.cons b bk (.cons b bk .nil)))) .nil)) .nil)=.ok x) :
   ∃E,AO (n+1) b bk=.ok E∧x=(Av Bo 46 [] (Av Bo 11 [] (.cons 6 0 0 [84,114,117,101] 0 .nil (E.cons E.one))).one).one:=by
 obtain⟨b2,G,E2,J,D,rfl⟩:=KL h
 cases J
 have K:(((Fo.cons Tt .nil (.cons b bk (.cons b bk .nil))).len:Int)==3)=true:=rfl;rw[wX,need,if_pos K] at D;simp only[AA,show AO (n+1) Tt .nil=.ok ⟨6,0,0,[84,114,117,101],0,.nil⟩ from C] at D
 cases F:AO (n+1) b bk with
 |error e=>rw[F] at D;cases D
 |ok E=>rw[F] at D;cases D;exact⟨E,C,C⟩
theorem zU(R rest:Fo):∃e,AA (Cj (n+2)) (.cons Bo (.cons (Bw Hh) .nil (.cons Bo (.cons (Bw Tw) .nil (.cons Tt .nil (.cons b bk .nil))) R)) rest)=.error e:=by
 have e:∃e,Cj (n+2) Bo (.cons (Bw Hh) .nil (.cons Bo (.cons (Bw Tw) .nil (.cons Tt .nil (.cons b bk .nil))) R))=.error e:=by
   cases R with
   |nil=>exact⟨_,C⟩
   |cons _ _ _=>exact⟨_,C⟩
 obtain⟨e,he⟩:=e;exact⟨e,by rw[AA,he]⟩
end
theorem J7:∀(l:List A4)(st:List (A4×Fo))(cur fo:Fo),Ar l st cur=.ok fo→(st.length:Int)+Ht l=0
 | [],[],_,_,_=>rfl
 | [],(o,p)::s,_,_,h=>by unfold Ar at h;split at h <;> cases h
 |k::l,st,cur,fo,h=>by
   simp only[Ar] at h;simp only[Ht,List.foldr_cons]
   split at h
   · rename_i F
     split at h
     · cases h
     · have D:=J7 l _ _ fo h
       simp only[Ht,List.length_cons] at D;rw[if_pos F];omega
   · rename_i F
     split at h
     · rename_i G
       cases st with
       |nil=>cases h
       |cons x s =>
         obtain⟨o,p⟩:=x;have D:=J7 l _ _ fo h;simp only[Ht] at D;rw[if_neg F,if_pos G];simp only[List.length_cons];omega
     · rename_i G
       have D:=J7 l _ _ fo h;simp only[Ht] at D;rw[if_neg F,if_neg G];omega
theorem HK(l:List A4):∀(ts:List A4)(st:List (A4×Fo))(cur:Fo),(∃e,∀l,Ar (ts++l) st cur=.error e)∨∃D h,∀l,Ar (ts++l) st cur=Ar l D h
 | [],st,cur=>.inr ⟨st,cur,λ_=>C⟩
 |k::ts,st,cur=>by
   simp only[List.cons_append,Ar]
   split
   · split
     · exact .inl ⟨_,λ_=>C⟩
     · exact HK l ts _ _
   · split
     · cases st with
       |nil=>exact .inl ⟨_,λ_=>C⟩
       |cons x s=>exact HK l ts _ _
     · exact HK l ts _ _
variable {fo:Fo}{t2:List A4}
theorem WB{a:A4}{c:Fo}(h:Ar t2 [(a,.nil)] c=.ok fo)(G:fo.len≤1):∃ts cl,t2=ts++[cl]∧(cl.k==0)=false∧(cl.k==1)=true:=by
 rcases List.eq_nil_or_concat t2 with rfl|⟨ts,cl,rfl⟩
 · unfold Ar at h;split at h <;> cases h
 · rw[List.concat_eq_append] at h ⊢
   refine⟨ts,cl,C,?_⟩;rcases HK [] ts [(a,.nil)] c with ⟨e,he⟩|⟨D,c',he⟩
   · rw[he] at h;cases h
   · have F:=he []
     rw[he] at h;simp only[Ar] at h
     split at h
     · split at h
       · cases h
       · split at h <;> cases h
     · rename_i k0
       refine⟨by simpa using k0,?_⟩
       split at h
       · rename_i k1;exact k1
       · exfalso
         cases D with
         |cons x s=>obtain⟨o,p⟩:=x;unfold Ar at h;split at h <;> cases h
         |nil =>
           cases h
           rw[List.append_nil] at F;have:=(Jy ts _ _ _ (F.trans C)).1;rw[LZ] at G;simp only[bl,Fo.len] at this;omega
theorem Hv{w:Fo}{a:A4}:∀(l:List A4)(rs:List (A4×Fo))(c:Fo),Ar l (FH w rs++[(a,.nil)]) (Iy w rs c)=.ok fo→∃R rest,fo=.cons a (w.cat R) rest
 | [],rs,c,h=>by
   exfalso
   cases he:FH w rs++[(a,.nil)] with
   |nil=>simp at he
   |cons z J=>rw[he] at h;obtain⟨o,p⟩:=z;unfold Ar at h;split at h <;> cases h
 |k::ts,rs,c,h=>by
   simp only[Ar] at h
   split at h
   · split at h
     · cases h
     · refine Hv ts ((k,c)::rs) .nil ?_
       have e:(k,Iy w rs c)::(FH w rs++[(a,.nil)])=FH w ((k,c)::rs)++[(a,.nil)]:=by
         cases rs with
         |nil=>rfl
         |cons x rs=>rfl
       rw[← e];exact h
   · split at h
     · cases rs with
       |nil =>
         simp only[FH,Iy,List.nil_append] at h;have D:=Hy (.cons a (w.cat c) .nil) ts [] .nil;have G:Ar ts [] (.cons a (w.cat c) .nil)=.ok fo:=h;rw[show fB (.cons a (w.cat c) .nil) []=[] from C,show eY (.cons a (w.cat c) .nil) [] .nil=.cons a (w.cat c) .nil from C,G] at D
         cases F:Ar ts [] .nil with
         |error e=>rw[F] at D;cases D
         |ok r=>rw[F] at D;cases D;exact⟨c,r,C⟩
       |cons x rs =>
         obtain⟨o,q⟩:=x
         cases rs with
         |nil =>
           refine Hv ts [] (q.snoc o c) ?_;simp only[FH,Iy,List.cons_append,List.nil_append,He] at h ⊢;exact h
         |cons y rs=>exact Hv ts (y::rs) (q.snoc o c) h
     · refine Hv ts rs (c.snoc k .nil) ?_
       cases rs with
       |nil =>
         simp only[FH,Iy,List.nil_append,He] at h ⊢;exact h
       |cons y rs=>exact h
def bH:lU:=[115,101,113]
def eL:lU:=[116,114,97,110,115,97,99,116]
def ZE(s:lU):lU:=[40,100,111,32]++(s++[41])
def VK(s:lU):lU:=[40,100,111,32,40,115,101,113,32,49,32]++(s++[41,41])
def Vq(s:lU):lU:=[40,100,111,32,40,40,102,110,32,40,120,41,32,120,41,32]++(s++[41,41])
def VV(s:lU):lU:=[40,100,111,32,40,116,114,97,110,115,97,99,116,32]++(s++[41,41])
def VY(s:lU):lU:=[40,100,111,32,40,108,101,116,32,122,122,57,32]++(s++[32,122,122,57,41,41])
def oL(s:lU):lU:=[40,100,111,32,40,105,102,32,84,114,117,101,32]++(s++32::(s++[41,41]))
def NR(s:lU):lU:=[40,100,111,32,40,99,97,115,101,32,49,32,40,95,32]++(s++[41,41,41])
section
variable(y:lU)
theorem Ia(a b:List A4)(o:Option (List A4)):(o.map (b ++ ·)).map (a ++ ·)=o.map ((a++b) ++ ·):=by cases o <;> simp
theorem Ph(c:UInt8)(w:lU){k nm:Int}{tx:lU}(h:(decide ((0:Int)≤Lib.indexByte ER c)||(c.toNat:Int)==59||(c.toNat:Int)==40||(c.toNat:Int)==41||(c.toNat:Int)==34)=false)(hw:w.all (λx=>decide (Lib.indexByte KA x<0))=true)(hm:Gj (c::w)=some (k,nm,tx)):DS (c::(w++32::y))=(DS y).map ([A4.er ⟨k,1,1,nm,tx⟩] ++ ·):=by
 rw[LS h (by decide) hw hm,Ie]
theorem eP:DS ([40,100,111,32,40,115,101,113,32,49,32]++y)=(DS y).map ([Bo,Bw Hh,Bo,Bw bH,UR] ++ ·):=by
 show DS ([40,100,111,32]++40::(115::([101,113]++32::(49::([]++32::y)))))=_;rw[On,Ge,Ph _ 115 [101,113] (k:=5) (nm:=0) (tx:=bH) dC dC (by rfl),Ph y 49 [] (k:=2) (nm:=1) (tx:=[]) dC dC (by rfl)];simp only[Ia];rfl
theorem gR:DS ([40,100,111,32,40,116,114,97,110,115,97,99,116,32]++y)=(DS y).map ([Bo,Bw Hh,Bo,Bw eL] ++ ·):=by
 show DS ([40,100,111,32]++40::(116::([114,97,110,115,97,99,116]++32::y)))=_;rw[On,Ge,Ph y 116 _ (k:=5) (nm:=0) (tx:=eL) (by decide) (by decide) (by rfl)];simp only[Ia];rfl
theorem ZQ:DS ([40,100,111,32,40,108,101,116,32,122,122,57,32]++y)=(DS y).map ([Bo,Bw Hh,Bo,Bw VI,Bw P1] ++ ·):=by
 show DS ([40,100,111,32]++40::(108::([101,116]++32::(122::([122,57]++32::y)))))=_;rw[On,Ge,Ph _ 108 [101,116] (k:=5) (nm:=0) (tx:=VI) dC dC (by rfl),Ph y 122 [122,57] (k:=5) (nm:=0) (tx:=P1) dC dC (by rfl)];simp only[Ia];rfl
theorem pL:DS ([40,100,111,32,40,105,102,32,84,114,117,101,32]++y)=(DS y).map ([Bo,Bw Hh,Bo,Bw Tw,Tt] ++ ·):=by
 show DS ([40,100,111,32]++40::(105::([102]++32::(84::([114,117,101]++32::y)))))=_;rw[On,Ge,Ph _ 105 [102] (k:=5) (nm:=0) (tx:=Tw) dC dC (by rfl),Ph y 84 [114,117,101] (k:=6) (nm:=0) (tx:=[84,114,117,101]) dC dC (by rfl)];simp only[Ia];rfl
theorem XT:DS ([40,100,111,32,40,99,97,115,101,32,49,32,40,95,32]++y)=(DS y).map ([Bo,Bw Hh,Bo,Bw L6,UR,Bo,Bw [95]] ++ ·):=by
 show DS ([40,100,111,32]++40::(99::([97,115,101]++32::(49::([]++32::(40::(95::([]++32::y))))))))=_;rw[On,Ge,Ph _ 99 [97,115,101] (k:=5) (nm:=0) (tx:=L6) dC dC (by rfl),Ph _ 49 [] (k:=2) (nm:=1) (tx:=[]) dC dC (by rfl),Ge,Ph y 95 [] (k:=5) (nm:=0) (tx:=[95]) dC dC (by rfl)];simp only[Ia];rfl
theorem dB:DS ([40,100,111,32,40,40,102,110,32,40,120,41,32,120,41,32]++y)=(DS y).map ([Bo,Bw Hh,Bo,Bo,Bw [102,110],Bo,Bw [120],K6,Bw [120],K6] ++ ·):=by
 show DS ([40,100,111,32]++40::(40::(102::([110]++32::(40::(120::([]++41::(32::(120::([]++41::(32::y)))))))))) )=_;rw[On,Ge,Ge,Ph _ 102 [110] (k:=5) (nm:=0) (tx:=[102,110]) dC dC (by rfl),Ge,LS (c:=120) (d:=41) (w:=[]) (k:=5) (nm:=0) (tx:=[120]) dC dC dC (by rfl),J5,Ie,LS (c:=120) (d:=41) (w:=[]) (k:=5) (nm:=0) (tx:=[120]) dC dC dC (by rfl),J5,Ie];simp only[Ia];rfl
end
theorem Qd:DS [41,41]=some [K6,K6]:=by rw[J5,J5,IU];rfl
theorem sF:DS [41,41,41]=some [K6,K6,K6]:=by rw[J5,Qd];rfl
theorem sN:DS [32,122,122,57,41,41]=some [Bw P1,K6,K6]:=by
 show DS (32::(122::([122,57]++41::[41])))=_;rw[Ie,LS (c:=122) (d:=41) (w:=[122,57]) (k:=5) (nm:=0) (tx:=P1) dC dC dC (by rfl),Qd];rfl
structure Bal(b:A4)(bk:Fo)(E:N)(ts:List A4):Prop where
 rel:NX ts [] .nil=some ([],.cons b bk .nil)
 exp:AO 200 b bk=.ok E
theorem Ye{ts:List A4}{cl:A4}(c0:(cl.k==0)=false)(G:(cl.k==1)=true){x:Nd}(h:Hz 200 ([Bo,Bw Hh]++(ts++[cl]))=.ok x)(O:x.len≤1):∃b bk E,Bal b bk E ts∧x=(Av Bo 46 [] E.one).one:=by
 unfold Hz at h;have e:Ar ([Bo,Bw Hh]++(ts++[cl])) [] .nil=Ar (ts++[cl]) [(Bo,.nil)] (.cons (Bw Hh) .nil .nil):=rfl;rw[e] at h
 cases D:Ar (ts++[cl]) [(Bo,.nil)] (.cons (Bw Hh) .nil .nil) with
 |error e=>rw[D] at h;cases h
 |ok fo =>
   rw[D] at h;have Q:=H0 fo x h;obtain⟨F,J,K⟩:=MF (w:=.cons (Bw Hh) .nil .nil) (p:=.nil) (a:=Bo) (cl:=cl) c0 G (fo:=fo) (by show fo.len≤0+1;omega) ts [] .nil D;rw[K] at h;obtain⟨b,bk,E,rfl,L,rfl⟩:=KL (F:=F) h;exact⟨b,bk,E,⟨J,L⟩,C⟩
theorem rD{src:lU}{x:Nd}(h:pO 200 (ZE src)=some x)(O:x.len≤1):∃b bk E ts,Bal b bk E ts∧x=(Av Bo 46 [] E.one).one ∧
   ((∀d r,mZ d→DS (src++d::r)=(DS (d::r)).map (ts ++ ·))∨∃cl:A4,(cl.k==0)=false∧(cl.k==1)=true∧Ht (ts++[cl]) = -1∧∀d r,mZ d→DS (src++d::r)=(DS (ZI (d::r))).map ((ts++[cl]) ++ ·)):=by
 unfold pO at h
 cases J:DS (ZE src) with
 |none=>rw[J] at h;cases h
 |some Y =>
   rw[J] at h;simp only at h;obtain⟨t2,U,rfl⟩:=lI J
   cases F:Hz 200 ([Bo,Bw [100,111]]++t2) with
   |error e=>rw[F] at h;cases h
   |ok z =>
     rw[F] at h
     cases h
     rcases aU src.length src t2 (Nat.le_refl _) U with ⟨ts,rfl,g⟩|g
     · obtain⟨b,bk,E,K,L⟩:=Ye (cl:=K6) C C F O
       exact⟨b,bk,E,ts,K,L,.inl g⟩
     · have D:=F
       unfold Hz at D;have e:Ar ([Bo,Bw [100,111]]++t2) [] .nil=Ar t2 [(Bo,.nil)] (.cons (Bw Hh) .nil .nil):=rfl;rw[e] at D
       cases G:Ar t2 [(Bo,.nil)] (.cons (Bw Hh) .nil .nil) with
       |error e=>rw[G] at D;cases D
       |ok fo =>
         rw[G] at D;have Z:=H0 fo x D;obtain⟨ts,cl,rfl,c0,Q⟩:=WB G oM;have W:=J7 _ _ _ _ G;obtain⟨b,bk,E,K,L⟩:=Ye c0 Q F O;exact⟨b,bk,E,ts,K,L,.inr ⟨cl,c0,Q,by simp only[List.length_cons,List.length_nil] at W;omega,g⟩⟩
variable {cur:Fo}{st:List (A4×Fo)}{post pre:List A4}
theorem Mt{W:lU}{ts:List A4}{F:Fo}{x:Nd}(L:DS W=some (pre++(ts++post)))(O:NX ts [] .nil=some ([],F))(Q:∀l,Ar (pre++l) [] .nil=Ar l st cur)(U:∀G,Ar post st (cur.cat F)=.ok G→G=fo)(h:pO 200 W=some x):AA (Cj 200) fo=.ok x:=by
 unfold pO at h;rw[L] at h;simp only at h
 cases D:Hz 200 (pre++(ts++post)) with
 |error e=>rw[D] at h;cases h
 |ok y =>
   rw[D] at h
   cases h
   unfold Hz at D;rcases VA O st cur Q (post:=post) with J|⟨e,J⟩
   · rw[J] at D
     cases K:Ar post st (cur.cat F) with
     |error e=>rw[K] at D;cases D
     |ok G=>rw[K] at D;obtain rfl:=U _ K;exact D
   · rw[J] at D;cases D
theorem Lw{W:lU}{x:Nd}(G:DS W=some (pre++t2))(J:Ht pre+Ht t2≠0):pO 200 W≠some x:=λh=>by
 unfold pO at h;rw[G] at h;simp only at h
 cases D:Hz 200 (pre++t2) with
 |error e=>rw[D] at h;cases h
 |ok y =>
   unfold Hz at D
   cases F:Ar (pre++t2) [] .nil with
   |error e=>rw[F] at D;cases D
   |ok fo =>
     have:=J7 _ _ _ _ F;rw[PG] at this;simp only[List.length_nil] at this;exact J oM
section
variable{src:lU}{b:A4}{bk:Fo}{E:N}{ts:List A4}{y:Nd}(hB:Bal b bk E ts)
   (hT:(∀d r,mZ d→DS (src++d::r)=(DS (d::r)).map (ts ++ ·))∨∃cl:A4,(cl.k==0)=false∧(cl.k==1)=true∧Ht (ts++[cl]) = -1∧∀d r,mZ d→DS (src++d::r)=(DS (ZI (d::r))).map ((ts++[cl]) ++ ·))
include hB hT
theorem qQ(h:pO 200 (VK src)=some y):y=.cons 46 0 0 [] 0 (.cons 12 0 0 [] 0 (.cons 1 0 0 [] 1 .nil E.one) .nil) .nil:=by
 rcases hT with g|⟨cl,_,_,D,g⟩
 · have F:DS (VK src)=some ([Bo,Bw Hh,Bo,Bw bH,UR]++(ts++[K6,K6])):=by rw[VK,eP,g 41 [41] (.inl C),Qd];rfl
   have:=Mt (fo:=.cons Bo (.cons (Bw Hh) .nil (.cons Bo (.cons (Bw bH) .nil (.cons UR .nil (.cons b bk .nil))) .nil)) .nil) F hB.rel (oB UR C C) (λG h=>Except.ok.inj (h.symm.trans C)) h;obtain⟨L,O,J,K,rfl⟩:=dS (n:=199) this;obtain rfl:=Iq K hB.exp
   cases J
   rfl
 · exact absurd h (Lw (pre:=[Bo,Bw Hh,Bo,Bw bH,UR]) (t2:=ts++[cl]) (by rw[VK,eP,g 41 [41] (.inl C),show ZI [41,41]=[] from C,IU];simp) (by rw[D];decide))
theorem rC(h:pO 200 (VV src)=some y):y=.cons 46 0 0 [] 0 (.cons 17 0 0 [] 0 E.one .nil) .nil:=by
 rcases hT with g|⟨cl,_,_,D,g⟩
 · have F:DS (VV src)=some ([Bo,Bw Hh,Bo,Bw eL]++(ts++[K6,K6])):=by rw[VV,gR,g 41 [41] (.inl C),Qd];rfl
   have:=Mt (fo:=.cons Bo (.cons (Bw Hh) .nil (.cons Bo (.cons (Bw eL) .nil (.cons b bk .nil)) .nil)) .nil) F hB.rel Zm (λG h=>Except.ok.inj (h.symm.trans C)) h;obtain⟨K,J,rfl⟩:=W5 (n:=199) this;obtain rfl:=Iq J hB.exp;rfl
 · exact absurd h (Lw (pre:=[Bo,Bw Hh,Bo,Bw eL]) (t2:=ts++[cl]) (by rw[VV,gR,g 41 [41] (.inl C),show ZI [41,41]=[] from C,IU];simp) (by rw[D];decide))
theorem uZ(h:pO 200 (Vq src)=some y):y=.cons 46 0 0 [] 0 (.cons 8 0 0 [] 0 (.cons 7 0 0 [] 0 (.cons 22 0 0 [120] 0 .nil (.cons 5 0 0 [120] 0 .nil .nil)) E.one) .nil) .nil:=by
 rcases hT with g|⟨cl,_,_,D,g⟩
 · have F:DS (Vq src)=some ([Bo,Bw Hh,Bo,Bo,Bw [102,110],Bo,Bw [120],K6,Bw [120],K6]++(ts++[K6,K6])):=by rw[Vq,dB,g 41 [41] (.inl C),Qd];rfl
   have:=Mt (fo:=.cons Bo (.cons (Bw Hh) .nil (.cons Bo (.cons Bo xO (.cons b bk .nil)) .nil)) .nil) F hB.rel oC (λG h=>Except.ok.inj (h.symm.trans C)) h;obtain⟨K,J,rfl⟩:=iI (n:=196) this;obtain rfl:=Iq J hB.exp;rfl
 · exact absurd h (Lw (pre:=[Bo,Bw Hh,Bo,Bo,Bw [102,110],Bo,Bw [120],K6,Bw [120],K6]) (t2:=ts++[cl]) (by rw[Vq,dB,g 41 [41] (.inl C),show ZI [41,41]=[] from C,IU];simp) (by rw[D];decide))
theorem wJ(h:pO 200 (VY src)=some y):y=.cons 46 0 0 [] 0 (.cons 9 0 0 P1 0 (E.cons (.cons 5 0 0 P1 0 .nil .nil)) .nil) .nil:=by
 rcases hT with g|⟨cl,_,_,D,g⟩
 · have F:DS (VY src)=some ([Bo,Bw Hh,Bo,Bw VI,Bw P1]++(ts++[Bw P1,K6,K6])):=by rw[VY,ZQ,g 32 _ (.inr C),sN];rfl
   have:=Mt (fo:=.cons Bo (.cons (Bw Hh) .nil (.cons Bo (.cons (Bw VI) .nil (.cons (Bw P1) .nil (.cons b bk (.cons (Bw P1) .nil .nil)))) .nil)) .nil) F hB.rel nS (λG h=>Except.ok.inj (h.symm.trans C)) h;obtain⟨K,J,rfl⟩:=iH (n:=198) this;obtain rfl:=Iq J hB.exp;rfl
 · exact absurd h (Lw (pre:=[Bo,Bw Hh,Bo,Bw VI,Bw P1]) (t2:=ts++[cl]) (by rw[VY,ZQ,g 32 _ (.inr C),show ZI [32,122,122,57,41,41]=[] from C,IU];simp) (by rw[D];decide))
theorem iW(h:pO 200 (NR src)=some y):y=.cons 46 0 0 [] 0 (.cons 14 0 0 [] 0 (.cons 1 0 0 [] 1 .nil (.cons 18 0 0 [] 0 (.cons 21 0 0 [] 0 .nil E.one) .nil)) .nil) .nil:=by
 rcases hT with g|⟨cl,_,_,D,g⟩
 · have F:DS (NR src)=some ([Bo,Bw Hh,Bo,Bw L6,UR,Bo,Bw [95]]++(ts++[K6,K6,K6])):=by rw[NR,XT,g 41 _ (.inl C),sF];rfl
   have:=Mt (fo:=.cons Bo (.cons (Bw Hh) .nil (.cons Bo (.cons (Bw L6) .nil (.cons UR .nil (.cons Bo (.cons (Bw [95]) .nil (.cons b bk .nil)) .nil))) .nil)) .nil) F hB.rel cM (λG h=>Except.ok.inj (h.symm.trans C)) h;obtain⟨K,J,rfl⟩:=Zi (n:=198) this;obtain rfl:=Iq J hB.exp;rfl
 · exact absurd h (Lw (pre:=[Bo,Bw Hh,Bo,Bw L6,UR,Bo,Bw [95]]) (t2:=ts++[cl]) (by rw[NR,XT,g 41 _ (.inl C),show ZI [41,41,41]=[] from C,IU];simp) (by rw[D];decide))
theorem xU(h:pO 200 (oL src)=some y):y=.cons 46 0 0 [] 0 (.cons 11 0 0 [] 0 (.cons 6 0 0 [84,114,117,101] 0 .nil (E.cons E.one)) .nil) .nil:=by
 rcases hT with g|⟨cl,c0,O,U,g⟩
 · have F:DS (oL src)=some ([Bo,Bw Hh,Bo,Bw Tw,Tt]++(ts++(ts++[K6,K6]))):=by rw[oL,pL,g 32 _ (.inr C),Ie,g 41 _ (.inl C),Qd];rfl
   have:=Mt (fo:=.cons Bo (.cons (Bw Hh) .nil (.cons Bo (.cons (Bw Tw) .nil (.cons Tt .nil (.cons b bk (.cons b bk .nil)))) .nil)) .nil) F hB.rel eN (λQ h=>by
     rcases Mo hB.rel [(Bo,.cons (Bw Hh) .nil .nil),(Bo,.nil)] (.cons (Bw Tw) .nil (.cons Tt .nil (.cons b bk .nil))) [K6,K6] with G|⟨e,G⟩
     · exact Except.ok.inj ((h.symm.trans G).trans C)
     · exact absurd (h.symm.trans G) (λh=>by cases h)) h
   obtain⟨W,J,rfl⟩:=jV (n:=198) this;obtain rfl:=Iq J hB.exp;rfl
 · exfalso
   unfold pO at h
   cases F:DS (oL src) with
   |none=>rw[F] at h;cases h
   |some Y =>
     rw[F] at h;simp only at h;rw[oL,pL,g 32 _ (.inr C)] at F
     cases L:DS (ZI (32::(src++[41,41]))) with
     |none=>rw[L] at F;cases F
     |some tr =>
       rw[L] at F;simp only[Option.map_some,Option.some.injEq] at F;subst F
       cases D:Hz 200 ([Bo,Bw Hh,Bo,Bw Tw,Tt]++((ts++[cl])++tr)) with
       |error e=>rw[D] at h;cases h
       |ok z =>
         unfold Hz at D;rw[eN,List.append_assoc] at D;rcases Mo hB.rel [(Bo,.cons (Bw Hh) .nil .nil),(Bo,.nil)] (.cons (Bw Tw) .nil (.cons Tt .nil .nil)) ([cl]++tr) with G|⟨e,G⟩
         · rw[G] at D
           have J:Ar ([cl]++tr) [(Bo,.cons (Bw Hh) .nil .nil),(Bo,.nil)] (Fo.cat (.cons (Bw Tw) .nil (.cons Tt .nil .nil)) (.cons b bk .nil))=Ar tr [(Bo,.nil)] (.cons (Bw Hh) .nil (.cons Bo (.cons (Bw Tw) .nil (.cons Tt .nil (.cons b bk .nil))) .nil)):=by
             show Ar (cl::tr) _ _=_;rw[Ar,if_neg (by rw[c0];decide),if_pos O];rfl
           rw[J] at D
           cases K:Ar tr [(Bo,.nil)] (.cons (Bw Hh) .nil (.cons Bo (.cons (Bw Tw) .nil (.cons Tt .nil (.cons b bk .nil))) .nil)) with
           |error e=>rw[K] at D;cases D
           |ok fo =>
             rw[K] at D;obtain⟨R,rest,rfl⟩:=Hv (w:=.cons (Bw Hh) .nil (.cons Bo (.cons (Bw Tw) .nil (.cons Tt .nil (.cons b bk .nil))) .nil)) tr [] .nil K;obtain⟨e,he⟩:=zU (n:=198) (b:=b) (bk:=bk) R rest;exact absurd (D.symm.trans he) (λh=>by cases h)
         · rw[G] at D;cases D
end
end Go.SP
namespace Go.Proofs.YtgdndhedjlmagaaGreatDoor
open Go.SW Go.SP Go.RowKit
def nY(v:lU)(r:RB):Prop:=(∃e,r=.error e∧(e.2.2=4∨e.2.2=10))∨r=.ok [([],v)]
theorem YL(src:lU):(CM src).2.2.2=0∨(CM src).2.2.2=4∨(CM src).2.2.2=10:=by
 unfold CM Hp IH
 by_cases h:decide ((65536:Int)<src.length)=true
 · rw[if_pos h];exact .inr (.inl C)
 · rw[if_neg h]
   cases Ee (src.length+1) src.length (1,1) src with
   |error e=>exact .inr (.inr C)
   |ok l =>
     simp only[]
     cases Ar l [] .nil with
     |error e=>exact .inr (.inr C)
     |ok fo =>
       simp only[]
       cases AA (Cj 200) fo with
       |error e=>exact .inr (.inr C)
       |ok x=>exact .inl C
variable {co ln:Int}{k r:Nd}{src:lU}
theorem DJ{x:Nd}{op nm:Int}{tx:lU}(h:x.er=.cons op ln co tx nm k r):∃ln' co' D F,x=.cons op ln' co' tx nm D F∧D.er=k∧F.er=r:=by
 cases x with
 |nil=>cases h
 |cons=>cases h;exact⟨_,_,_,_,C,C,C⟩
theorem B6{x:Nd}(h:x.er=.nil):x=.nil:=by
 cases x with
 |nil=>rfl
 |cons=>cases h
theorem pS:∀x:Nd,x.er.len=x.len
 |.nil=>rfl
 |.cons _ _ _ _ _ _ r=>by simp only[Nd.er,Nd.len,pS r]
theorem K0{W v:lU}(L:W.length≤65536){X:Nd}(O:∀y,pO 200 W=some y→y=.cons 46 0 0 [] 0 X .nil)
   (Q:∀D:Nd,D.er=X→∃op l c x m k r,D=.cons op l c x m k r∧Je v (AJ (k.size+1) ES B5 op l c x m k)):nY v (CV W):=by
 obtain⟨U,Y⟩:=Up 200 W L
 cases F:pO 200 W with
 |none =>
   have K:(CM W).2.2.2≠0:=Y F;rw[Px K];refine .inl ⟨_,C,?_⟩;rcases YL W with h|h|h
   · exact absurd h K
   · exact .inl h
   · exact .inr h
 |some y =>
   obtain⟨G,Z⟩:=U y F;obtain rfl:=O y F;rw[Ob (show (CM W).2.2.2=0 from Z)];have G:(CM W).1.er=.cons 46 0 0 [] 0 X .nil:=G;obtain⟨ln,co,D,r',e1,e2,e3⟩:=DJ G;obtain rfl:=B6 e3;obtain⟨op,l,c,x,m,k,r,rfl,hs⟩:=Q D e2;rw[e1];rcases jU (ln:=ln) (co:=co) (nm:=0) (tx:=[]) (r:=r) hs with ⟨e,J,h6⟩|J
   · exact .inl ⟨e,J,.inl h6⟩
   · exact .inr J
structure Ym(src v:lU):Prop where
 sq:nY v (CV (VK src))
 ap:nY v (CV (Vq src))
 tr:nY v (CV (VV src))
 le:nY v (CV (VY src))
 fi:nY v (CV (oL src))
 ca:nY v (CV (NR src))
theorem TI(hl:src.length≤1000){out:List (lU×lU)}(h:CV (ZE src)=.ok out)(h1:(CM (ZE src)).1.len=1):∃v,out=[([],v)]∧Ym src v:=by
 obtain⟨h0,Z,O,ho⟩:=PM (src:=ZE src) (by rw[h];rfl);obtain rfl:Z=out:=by rw[h] at ho;cases ho;rfl
 obtain⟨g1,g2⟩:=Up 200 (ZE src) (by simp only[ZE,List.length_append,List.length_cons,List.length_nil];omega)
 cases hp:pO 200 (ZE src) with
 |none=>exact absurd h0 (g2 hp)
 |some x =>
   have hx:(CM (ZE src)).1.er=x:=(g1 x hp).1;obtain⟨b,bk,E,ts,Q,hE,U⟩:=rD hp (by rw[← hx,pS,h1];exact Nat.le_refl _);rw[hE] at hx;obtain⟨ln,co,G,r',e1,e2,e3⟩:=DJ (op:=46) (k:=E.one) (r:=.nil) hx;obtain rfl:=B6 e3;obtain⟨l,c,k,r,rfl,e4,e5⟩:=DJ (op:=E.op) (k:=E.kids) (r:=.nil) e2;obtain rfl:=B6 e5;have hwt:(Nd.cons 46 ln co [] 0 (.cons E.op l c E.tx E.nm k .nil) .nil).wft:=e1▸(Mf (ZE src)).wft
   have hw:FK E.op k:=by
     rcases hwt.1 with h|⟨h,_⟩|⟨_,h⟩
     · exact absurd h dC
     · exact absurd h dC
     · exact h
   rw[e1] at O;obtain⟨t,s1,f,W,Y,rfl⟩:=cT O
   have kid:∀{G:Nd}{r:Nd},G.er=E.cons r→∃J c2 k2 L,G=.cons E.op J c2 E.tx E.nm k2 L∧k.er=k2.er∧L.er=r:=λ{G r} F=>by
     obtain⟨J,c2,k2,L,a1,a2,a3⟩:=DJ (op:=E.op) (k:=E.kids) (r:=r) F;exact⟨J,c2,k2,L,a1,e4.trans a2.symm,a3⟩
   have D:∀{G:Nd},G.er=E.one→∃J c2 k2,G=.cons E.op J c2 E.tx E.nm k2 .nil∧k.er=k2.er:=λ{G} F=>by
     obtain⟨J,c2,k2,L,a1,a2,a3⟩:=kid (r:=.nil) F;obtain rfl:=B6 a3;exact⟨J,c2,k2,a1,a2⟩
   refine⟨De f,C,?_,?_,?_,?_,?_,?_⟩
   · refine K0 (by simp only[VK,List.length_append,List.length_cons,List.length_nil];omega) (λy=>qQ Q U) λG F=>?_
     obtain⟨l1,c1,k1,K,rfl,a2,a3⟩:=DJ F;obtain rfl:=B6 a3;obtain⟨J,c2,k2,L,rfl,b2,b3⟩:=DJ a2;obtain rfl:=B6 b2;obtain⟨l3,c3,k3,rfl,d2⟩:=D b3;exact⟨_,_,_,_,_,_,_,C,gA W Y d2 (by simp only[Nd.size];omega)⟩
   · refine K0 (by simp only[Vq,List.length_append,List.length_cons,List.length_nil];omega) (λy=>uZ Q U) λG F=>?_
     obtain⟨l1,c1,k1,K,rfl,a2,a3⟩:=DJ F;obtain rfl:=B6 a3;obtain⟨J,c2,k2,L,rfl,b2,b3⟩:=DJ a2;obtain⟨l4,c4,k4,r4,rfl,f2,f3⟩:=DJ b2;obtain rfl:=B6 f2;obtain⟨l5,c5,k5,r5,rfl,i2,i3⟩:=DJ f3;obtain rfl:=B6 i2;obtain rfl:=B6 i3;obtain⟨l3,c3,k3,rfl,d2⟩:=D b3;exact⟨_,_,_,_,_,_,_,C,fF W hw Y d2 (by simp only[Nd.size];omega) (by simp only[Nd.size];omega)⟩
   · refine K0 (by simp only[VV,List.length_append,List.length_cons,List.length_nil];omega) (λy=>rC Q U) λG F=>?_
     obtain⟨l1,c1,k1,K,rfl,a2,a3⟩:=DJ F;obtain rfl:=B6 a3;obtain⟨l3,c3,k3,rfl,d2⟩:=D a2;exact⟨_,_,_,_,_,_,_,C,VZ W Y d2 (by simp only[Nd.size];omega)⟩
   · refine K0 (by simp only[VY,List.length_append,List.length_cons,List.length_nil];omega) (λy=>wJ Q U) λG F=>?_
     obtain⟨l1,c1,k1,K,rfl,a2,a3⟩:=DJ F;obtain rfl:=B6 a3;obtain⟨l3,c3,k3,r3,rfl,d2,d3⟩:=kid a2;obtain⟨l4,c4,k4,r4,rfl,f2,f3⟩:=DJ d3;obtain rfl:=B6 f2;obtain rfl:=B6 f3;exact⟨_,_,_,_,_,_,_,C,ZV W hw Y dC d2 (by simp only[Nd.size];omega)⟩
   · refine K0 (by simp only[oL,List.length_append,List.length_cons,List.length_nil];omega) (λy=>xU Q U) λG F=>?_
     obtain⟨l1,c1,k1,K,rfl,a2,a3⟩:=DJ F;obtain rfl:=B6 a3;obtain⟨J,c2,k2,L,rfl,b2,b3⟩:=DJ a2;obtain rfl:=B6 b2;obtain⟨l3,c3,k3,r3,rfl,d2,d3⟩:=kid b3;obtain⟨l4,c4,k4,rfl,f2⟩:=D d3;exact⟨_,_,_,_,_,_,_,C,lZ W hw Y d2 (by simp only[Nd.size];omega) f2 (by simp only[Nd.size];omega)⟩
   · refine K0 (by simp only[NR,List.length_append,List.length_cons,List.length_nil];omega) (λy=>iW Q U) λG F=>?_
     obtain⟨l1,c1,k1,K,rfl,a2,a3⟩:=DJ F;obtain rfl:=B6 a3;obtain⟨J,c2,k2,L,rfl,b2,b3⟩:=DJ a2;obtain rfl:=B6 b2;obtain⟨l4,c4,k4,r4,rfl,f2,f3⟩:=DJ b3;obtain rfl:=B6 f3;obtain⟨l5,c5,k5,r5,rfl,i2,i3⟩:=DJ f2;obtain rfl:=B6 i2;obtain⟨l3,c3,k3,rfl,d2⟩:=D i3;exact⟨_,_,_,_,_,_,_,C,YA W Y d2 (by simp only[Nd.size];omega)⟩
theorem cV(src:lU):ZE src=[40,100,111,32]++src++[41]:=by simp[ZE]
def yA(s:lU):List lU:=[[40,100,111,32,40,115,101,113,32,49,32]++s++[41,41],[40,100,111,32,40,40,102,110,32,40,120,41,32,120,41,32]++s++[41,41],[40,100,111,32,40,116,114,97,110,115,97,99,116,32]++s++[41,41],[40,100,111,32,40,108,101,116,32,122,122,57,32]++s++[32,122,122,57,41,41],[40,100,111,32,40,105,102,32,84,114,117,101,32]++s++[32]++s++[41,41],[40,100,111,32,40,99,97,115,101,32,49,32,40,95,32]++s++[41,41,41]]
theorem wr_ok{v:lU}(h:Ym src v):∀(i:Nat)(x:lU),(yA src)[i]?=some x→nY v (CV x)
 |0,x,D=>by cases D;simpa[VK] using h.sq
 |1,x,D=>by cases D;simpa[Vq] using h.ap
 |2,x,D=>by cases D;simpa[VV] using h.tr
 |3,x,D=>by cases D;simpa[VY] using h.le
 |4,x,D=>by cases D;simpa[oL] using h.fi
 |5,x,D=>by cases D;simpa[NR] using h.ca
 |i+6,x,D=>by cases D
end Go.Proofs.YtgdndhedjlmagaaGreatDoor
namespace Go.Proofs.YtgdndhedjlmagaaGreatDoor
open Go.SW Go.SP Go.RowKit Go.Proofs.Tryz
theorem PW(w:wO)(f:Fq)(h:Vl w f)(D:D3 w f)(F:FD w f)(src t:lU)(e:t=src):BF prog 6 #[S t] w (Ce (α:=RB×oA×Nat) (λx=>inV x.1 x.2) (λx=>CV src=x.1) (λx=>[λw f=>Nu w f (pX x.1) x.2.1 x.2.2]) w f):=by
 subst e;exact (KW w f h D F t).mono λ_ _ ⟨x,f',G,_,J,K⟩=>⟨(CV t,x),f',G,C,J,K⟩
theorem WM(w:wO)(f:Fq)(hv:Vl w f)(hJ:D3 w f)(hG:FD w f)(src:lU) :
   BF prog 3 #[S src] w (Ce (α:=Unit) (λ_=>.bool true) (λ_=>True) (λ_=>[]) w f):=by
 refine Df (X:=X0 w f) (H:=[]) (R:=[]) (B:=[]) (Fs:=[λw f=>D3 w f,λw f=>FD w f]) (f:=f) func3 C C C (CC hv ⟨hJ,hG,tQ⟩ ⟨D3.mono,FD.mono,tQ⟩)<|Aa 13 [] (λ_=>Bb 16 C C (λG=>?_) (λG=>?_));refine Aa 3 [] (λ_=>BA C C (eC XB C C) (λw f D=>HJ w f D.vl D.f0 D.f1) (λ_=>trivial) ?_);rintro⟨⟩ -;exact Aa 5 [] (λ_=>Bc (DE C C) (λw f D=>⟨(),f,C,tQ,D.exm,tQ⟩));refine Aa 4 [] (λ_=>?_);have hl:src.length≤1000:=by have:=dF G;omega
 refine Aa 4 [] (aI (by simp <;> omega)<|aI (by simp <;> omega)<|λ_=>BA C C (eC oK C C) (λw f D=>S8 w f D.vl D.f0 ([40,100,111,32]++src++[41])) (λ_=>⟨Ba.mono,tQ⟩) ?_);rintro⟨na,nc⟩ -;dsimp only;refine Aa 15 [0] (λb1=>y<|aI (by simp <;> omega)<|aI (by simp <;> omega)<|λ_=>BA (α:=RB×oA×Nat) (val:=λx=>inV x.1 x.2) (q:=λx=>CV ([40,100,111,32]++src++[41])=x.1) (F':=λx=>[λw f=>Nu w f (pX x.1) x.2.1 x.2.2]) C C (eC Xa C C) (λw f D=>PW w f D.vl D.f1 D.f2 ([40,100,111,32]++src++[41]) _ C) (λ_=>⟨Nu.mono,tQ⟩) ?_);rintro⟨ra,aa,ac⟩ F;dsimp only at F ⊢;refine Aa 13 [0] (λb2=>y<|λ_=>BA C C (eC XB C C) (λw f D=>HJ w f D.vl D.f2 D.f3) (λ_=>trivial) ?_);rintro⟨⟩ -;refine Aa 6 [] (λ_=>Bb 40 C C (λJ=>?_) (λJ=>?_));refine Aa 9 [] (λ_=>BA C C (eC XB C C) (λw f D=>HJ w f D.vl D.f2 D.f3) (λ_=>trivial) ?_);rintro⟨⟩ -;exact Aa 5 [] (λ_=>Bc (DE C C) (λw f D=>⟨(),f,C,tQ,D.exm,tQ⟩));refine Aa 6 [] (λ_=>Bb 44 C C (λU=>?_) (λU=>?_));refine Aa 3 [] (λ_=>BA C C (eC XB C C) (λw f D=>HJ w f D.vl D.f2 D.f3) (λ_=>trivial) ?_);rintro⟨⟩ -;exact Aa 5 [] (λ_=>Bc (DE C C) (λw f D=>⟨(),f,C,tQ,D.exm,tQ⟩));refine Aa 4 [] (λ_=>?_);obtain⟨h0,out,W,K⟩:=PM (src:=([40,100,111,32]++src++[41])) (by rw[F];exact J);obtain rfl:ra=.ok out:=F.symm.trans K;have O:(CM ([40,100,111,32]++src++[41])).1.len=1:=by have h9:((CM ([40,100,111,32]++src++[41])).1.len:Int)=1:=(by simpa using U);omega
 obtain⟨v,rfl,hw⟩:=TI (src:=src) hl (out:=out) (by rw[cV];exact F) (by rw[cV];exact O);refine Nq (α:=Nat×Nat) (λx=>aa=some ⟨x.1,x.2,none⟩) (λx=>[⟨x.1,x.2,[S [],S v]⟩]) (λx=>[]) (λw f D=>let ⟨x,G,J⟩:=Nu.opn D.f0 (List.cons_ne_nil _ _);⟨x,G,oE J,nE⟩) (λx=>A2.mem tQ) ?_;rintro⟨Y,Z⟩ rfl;refine Aa 28 [] (aI (by simp <;> omega)<|aI (by simp <;> omega)<|aI (by simp <;> omega)<|aI (by simp <;> omega)<|aI (by simp <;> omega)<|aI (by simp <;> omega)<|aI (by simp <;> omega)<|aI (by simp <;> omega)<|aI (by simp <;> omega)<|aI (by simp <;> omega)<|aI (by simp <;> omega)<|aI (by simp <;> omega)<|aI (by simp <;> omega)<|aI (by simp <;> omega)<|λb3=>λ_=>Dg 0 C C<|Aa 5 [] (λ_=>?_));refine HE (α:=Nat) (λi=>6-i) (λi=>i≤6) (λi=>(E3 6 (.slice (some ⟨Y,Z,none⟩) 1 ac) 9 (.slice (some ⟨b3,0,none⟩) 6 6) 10 (iV (i:Int)))) (λi=>X0 w f) (λi=>[]) (λi=>[]) (λi=>[⟨b3,0,(yA src).flatMap λx=>[S x]⟩,⟨Y,Z,[S [],S v]⟩]) (λi=>[λw f=>D3 w f,λw f=>FD w f]) (0) (Nat.zero_le _) lE (λw f D=>D.less (List.nil_sublist _) sR (λ_ h=>h) (mR [2,3])) ?_;rintro i hi;refine Aa 9 [] (λ_=>Bb 71 C C (λh4=>?_) (λh4=>?_));refine Aa 6 [] (λ_=>?_);have Q:i<6:=by have:=dT h4;omega
 obtain⟨L,hx⟩:∃x,(yA src)[i]?=some x:=⟨_,List.getElem?_eq_getElem (show i<(yA src).length from Q)⟩;refine Nq (α:=Unit) (λx=>True) (λx=>[⟨b3,0+i*1,[S L]⟩]) (λx=>[]) (λw f D=>⟨(),tQ,oE (Cs.flat (λx=>[S x]) 1 (λ_=>C) (yA src) 0 i _ D.b0 hx),nE⟩) (λx=>A2.mem tQ) ?_;rintro⟨⟩ -;refine Aa 5 [100,0] (aI (by first|omega|simp[pX])<|y2<|λ_=>BA (α:=RB×oA×Nat) (val:=λx=>inV x.1 x.2) (q:=λx=>CV L=x.1) (F':=λx=>[λw f=>Nu w f (pX x.1) x.2.1 x.2.2]) C C (eC Xa C C) (λw f D=>PW w f D.vl D.f0 D.f1 L _ C) (λ_=>⟨Nu.mono,tQ⟩) ?_);rintro⟨r,ba,bc⟩ hr;dsimp only at hr ⊢;refine Aa 12 [0] (λb4=>y<|λ_=>?_);have hk:nY v r:=by rw[← hr];exact wr_ok hw i L hx
 rcases hk with ⟨e,rfl,he⟩|rfl
 ·
   refine Aa 4 [] (λ_=>Bb 85 C C (λh5=>?_) (λh5=>?_));exact Aa 15 [] (aI ⟨oM,oM⟩<|λ_=>DW (i+1) (show 6-(i+1)<6-i by omega) (show i+1≤6 by omega) lE (λw f D=>⟨_,D.less (List.nil_sublist _) sR (λ_ h=>.tail _ (h)) (mR [1,2])⟩));refine Aa 5 [] (λ_=>Bb 88 C C (λh6=>?_) (λh6=>?_));exact Aa 10 [] (aI ⟨oM,oM⟩<|λ_=>DW (i+1) (show 6-(i+1)<6-i by omega) (show i+1≤6 by omega) lE (λw f D=>⟨_,D.less (List.nil_sublist _) sR (λ_ h=>.tail _ (h)) (mR [1,2])⟩));exact absurd he (λhe=>he.elim (ne_of_beq_false h5) (ne_of_beq_false h6))
 ·
   refine Aa 13 [] (λ_=>Nq (α:=Nat×Nat) (λx=>ba=some ⟨x.1,x.2,none⟩) (λx=>[⟨x.1,x.2,[S [],S v]⟩]) (λx=>[]) (λw f D=>let ⟨x,G,J⟩:=Nu.opn D.f0 (List.cons_ne_nil _ _);⟨x,G,oE J,nE⟩) (λx=>A2.mem tQ) ?_);rintro⟨qb,qo⟩ rfl;refine Dh [0] Aq (rd [0,1,2,3,4,5,6,7,8,9,10,11,12,13,14,15,16,17] .fin) C kR<|A9 18 [100,1,103,1] (aI (by first|omega|simp[pX])<|y2<|aI (by first|omega|simp[pX])<|y2<|λ_=>Bx<|Aa 1 [] (λ_=>Bb 106 C C (λh7=>?_) (λh7=>?_)));exact absurd h7 (by simp);exact Aa 9 [] (aI ⟨oM,oM⟩<|λ_=>DW (i+1) (show 6-(i+1)<6-i by omega) (show i+1≤6 by omega) lE (λw f D=>⟨_,D.less (List.nil_sublist _) sR (λ_ h=>.tail _ (.tail _ (h))) (mR [1,2])⟩))
 exact Aa 3 [] (λ_=>GP<|Aa 8 [] (λ_=>Bc (DE C C) (λw f D=>⟨(),f,C,tQ,D.exm,tQ⟩)))
end Go.Proofs.YtgdndhedjlmagaaGreatDoor
namespace Go.Proofs.YtgdndhedjlmagaaGreatDoor.Wraps
open Go.SW Go.SP Go.RowKit Go.Lib Go.ChangeShapes Go.WideShapes Go.ChangeAt Go.ChangeMaps
set_option maxRecDepth 100000 in
theorem aE(H:Type)(enc:TypeId×Value→H)(W:World)(base:Nat)(args:Array Value)(ds gs:List (DataW H))(before:List MemPlace)
   (hval:∀(j:Nat) t v,Tryz.f3.params[j]?=some t→args[j]?=some v→Value.okWide Tryz.prog W .any base t v)
   (hW:DataW.Whole enc Tryz.prog Tryz.f3.params.toList Rows.inferWrapsSpec.vars false W args.toList ds gs before) (hL:laidMetH Tryz.prog Rows.inferWrapsRow.laid W) (hS:W.ShapedOpen Tryz.prog) :
   Calls Tryz.prog 3 args W λe W'=>∃v,e=.returned v∧Rows.inferWrapsSpec.post enc Tryz.prog Tryz.f3 false true false false W args v W':=by
 have hW':=hW;obtain⟨p,q,hA0,hV,rfl,hfz,hnd⟩:=hW;have hA:DataW.TrodAll enc Tryz.prog W 0 (λ_=>true) true Tryz.f3.params.toList args.toList ds p:=hA0;rw[Tryz.params3] at hA hval;obtain⟨v0,vs0,d0,ds0,p0,q0,hargs0,rfl,rfl,h0,r0⟩:=trodAll_cons hA;obtain⟨rfl,rfl,rfl⟩:=trodAll_nil r0
 obtain rfl:args=#[v0]:=by
   obtain⟨l⟩:=args;exact congrArg Array.mk (hargs0)
 obtain⟨rfl,rfl⟩:=trodVars_none hV;obtain⟨⟨⟨x0⟩⟩,rfl,rfl,rfl,wx0⟩:=open_string Tryz.underlying9 (hval 0 9 v0 C C) h0;clear hA0;simp only[List.append_nil] at hW';refine Calls.mono (cQ (WM W (oV W) (sX W) (oP hL hS).1 (oP hL hS).2 x0)) ?_;rintro e W' ⟨v,rfl,rfl,hb⟩;exact⟨_,C,_,_,_,[],[],[],hW',trodAll_cons_mk (shut_bool Tryz.underlying4 _) trodAll_mk0,trodAll_cons_mk (shut_string Tryz.underlying9 wx0) trodAll_mk0,C,hb.frame _,λh=>by cases h⟩
noncomputable def lw(os:Os):World:=World.laidAll Tryz.prog os Rows.inferWrapsRow.laid
theorem cS(os:Os):laidMetH Tryz.prog Rows.inferWrapsRow.laid ((lw os).forCall (λ_ _=>0) ⟨#[],#[Value.string ⟨#[]⟩],[]⟩).memory:=by
 rw[MakeChecks.laidMetH_plain _ _ _ (by kernel_rfl)];exact laidMet_laidAll _ kR kR
theorem reads(os:Os){H:Type}(enc:TypeId×Value→H):∃places,DataW.whole enc Tryz.prog ((lw os).forCall (λ_ _=>0) ⟨#[],#[Value.string ⟨#[]⟩],[]⟩).memory Tryz.f3.params.toList Rows.inferWrapsSpec.vars false (#[Value.string ⟨#[]⟩]:Array Value).toList 8=some ([.lit (.string [])],[],places) :=
 ⟨[],kR⟩
set_option maxRecDepth 100000 in
theorem lifted(os:Os)(started:os.Started)(H:Type)(enc:TypeId×Value→H)(F:Stop.Interp) :
   ReturnsInHanded {} Tryz.checked os 3 .any ((OpenSpec.ofChange Rows.inferWrapsSpec).preRow enc Tryz.prog Tryz.f3 Rows.inferWrapsRow.domain false Rows.inferWrapsRow.laid) (((OpenSpec.ofChange Rows.inferWrapsSpec).at F).post enc Tryz.prog Tryz.f3 false true false false):=by
 obtain⟨places,hx⟩:=reads os enc
 refine returnsInHanded_of_row (C:=Tryz.checked) (s:=OpenSpec.ofChange Rows.inferWrapsSpec) own started kR Tryz.func3
   ⟨lw os,λ_ _=>0,⟨#[],#[Value.string ⟨#[]⟩],[]⟩,World.laidAll_os _ _ _,World.shaped_of_ZipB kR kR,rfl,(Input.okWide_of_okWideB kR).2,
     OpenSpec.preRow_of_cond 8 hx kR (λk hk=>by cases hk) kR (cS os),by simp[Assume.holds]⟩ ?_
 intro W base args ds gs before hval hW _ _ _ hL hS _;exact aE H enc W base args ds gs before hval hW hL hS
abbrev jc:=Rows.inferWrapsRow
abbrev js:=(OpenSpec.ofChange Rows.inferWrapsSpec).bare
theorem jT{a b:Bool}(h:a=true)(k:b=true):(a&&b)=true:=by rw[h,k];rfl
theorem jL{a b:Bool}(h:(a&&b)=true):a=true:=((Bool.and_eq_true a b).mp h).1
theorem jR{a b:Bool}(h:(a&&b)=true):b=true:=((Bool.and_eq_true a b).mp h).2
theorem j0:((jc.wf (OpenSpec.ofChange js))&&(laidOutB Tryz.pinned.checked.prog)&&(mapsRowed Tryz.pinned.checked.prog)&&(Tryz.f3.params.all (Tryz.pinned.checked.prog.readableRec ·))&&(namedTie Tryz.pinned.checked.prog jc.named js.vars)&&((jc.stops==[]))&&((Tryz.pinned.checked.prog.stops==[]))&&((jc.knobs==[]))&&((Tryz.pinned.checked.prog.stopKnobs==[])))=true:=kR
theorem j1:(((jc.inPlace==Tryz.pinned.checked.prog.inPlace 3))&&((jc.unfollowed==Tryz.pinned.checked.prog.unfollowed 3))&&((jc.recurses==Tryz.pinned.checked.prog.recurses 3))&&((jc.named==Tryz.pinned.checked.prog.varsNamed 3)))=true:=kR
theorem j2:(((jc.maps==(Tryz.f3.params.toList++js.plain.varTypes Tryz.pinned.checked.prog).any (Tryz.pinned.checked.prog.mapsRec ·)))&&((jc.ifaces==(Tryz.f3.params.toList++js.plain.varTypes Tryz.pinned.checked.prog).any (Tryz.pinned.checked.prog.ifacesRec ·)))&&((jc.mapsOut==Tryz.pinned.checked.prog.mapsAmong Tryz.f3.resultTypes.toList))&&((jc.loops==(Tryz.f3.params.toList++js.plain.varTypes Tryz.pinned.checked.prog).any (Tryz.pinned.checked.prog.loopsFrom ·)))&&((jc.wideKeys==(Tryz.f3.params.toList++js.plain.varTypes Tryz.pinned.checked.prog++Tryz.f3.resultTypes.toList).any (Tryz.pinned.checked.prog.wideKeysFrom ·)))&&(js.vars.all (Tryz.pinned.checked.prog.varReadable ·)))=true:=kR
theorem j3:((Tryz.f3.resultTypes.all (λt=>Tryz.pinned.checked.prog.readableRec t&&decide (t < Tryz.pinned.checked.prog.types.size)))&&((jc.ifacesOut==Tryz.f3.resultTypes.toList.any (Tryz.pinned.checked.prog.ifacesRec ·)))&&((jc.loopsOut==Tryz.f3.resultTypes.toList.any (Tryz.pinned.checked.prog.loopsFrom ·)))&&((jc.plainKeys==Tryz.pinned.checked.prog.plainKeys))&&(jc.shortTexts.isNone)&&(Tryz.pinned.checked.prog.stopsHeard)&&(Tryz.pinned.checked.prog.mayEnter)&&((jc.lifted==Tryz.pinned.checked.prog.liftsFinal))&&((Tryz.pinned.checked.prog.make==some jc.make))&&((jc.kinds==(if jc.domain.isEmpty then [] else Tryz.f3.params.toList.map λt=>match Tryz.pinned.checked.prog.underlying t with|some (.int k)=>some k|_=>none)))&&((jc.pinned==jc.pinnedBy))&&((jc.veiled==(Tryz.f3.params.toList++js.plain.varTypes Tryz.pinned.checked.prog++Tryz.f3.resultTypes.toList).any (Tryz.pinned.checked.prog.veiledRec ·)))&&(jc.veiledFits Tryz.pinned.checked.prog Tryz.f3.params.toList (Tryz.f3.params.toList++js.plain.varTypes Tryz.pinned.checked.prog++Tryz.f3.resultTypes.toList)))=true:=kR
set_option maxRecDepth 100000 in
theorem jAll:joinedFacts Tryz.pinned.checked.prog 3 Tryz.f3 (OpenSpec.ofChange Rows.inferWrapsSpec).bare Rows.inferWrapsRow=true:=(jT (jT (jT (jT (jT (jT (jT (jT (jT (jT (jT (jT (jT (jT (jT (jT (jT (jT (jT (jT (jT (jT (jT (jT (jT (jT (jT (jT (jT (jT (jT (jL (jL (jL (jL (jL (jL (jL (jL j0)))))))) (jR (jL (jL (jL (jL (jL (jL (jL j0))))))))) (jR (jL (jL (jL (jL (jL (jL j0)))))))) (jR (jL (jL (jL (jL (jL j0))))))) (jR (jL (jL (jL (jL j0)))))) (jR (jL (jL (jL j0))))) (jR (jL (jL j0)))) (jR (jL j0))) (jR j0)) (jL (jL (jL j1)))) (jR (jL (jL j1)))) (jR (jL j1))) (jR j1)) (jL (jL (jL (jL (jL j2)))))) (jR (jL (jL (jL (jL j2)))))) (jR (jL (jL (jL j2))))) (jR (jL (jL j2)))) (jR (jL j2))) (jR j2)) (jL (jL (jL (jL (jL (jL (jL (jL (jL (jL (jL (jL j3))))))))))))) (jR (jL (jL (jL (jL (jL (jL (jL (jL (jL (jL (jL j3))))))))))))) (jR (jL (jL (jL (jL (jL (jL (jL (jL (jL (jL j3)))))))))))) (jR (jL (jL (jL (jL (jL (jL (jL (jL (jL j3))))))))))) (jR (jL (jL (jL (jL (jL (jL (jL (jL j3)))))))))) (jR (jL (jL (jL (jL (jL (jL (jL j3))))))))) (jR (jL (jL (jL (jL (jL (jL j3)))))))) (jR (jL (jL (jL (jL (jL j3))))))) (jR (jL (jL (jL (jL j3)))))) (jR (jL (jL (jL j3))))) (jR (jL (jL j3)))) (jR (jL j3))) (jR j3))
theorem said:Rows.InferWrapsSaid :=
 OpenClaim.holds_of_cond 3 Tryz.f3 C C C C C C C ⟨C,C,C,C,C⟩ C C C C C kR Tryz.func3 jAll
   (of_decide_eq_true kR) (by unfold Func.isWrapper;first|(rw[if_pos (by decide +kernel)];kernel_rfl)|(rw[if_neg (by decide +kernel)];exact⟨C,C⟩))
   (λos started H enc _ F=>by rw[OpenClaim.pre_eq_preRow];exact lifted os started H enc F)
theorem plain(f:FuncId)(fn:Func)(hf:Tryz.pinned.checked.prog.funcNamed Rows.inferWrapsRow.func=some f)(hfn:Tryz.pinned.checked.prog.funcs[f]?=some fn) :
   true=Tryz.pinned.checked.prog.looks []∧∀(j:Nat) t,fn.params[j]?=some t→Tryz.pinned.checked.prog.wantsStandIn t=false:=by
 obtain rfl:f=3:=Option.some.inj ((show Tryz.prog.funcNamed Rows.inferWrapsRow.func=some 3 by kernel_rfl).symm.trans hf) |>.symm;obtain rfl:fn=Tryz.f3:=(Option.some.inj (Tryz.func3.symm.trans hfn)).symm;refine⟨kR,λj t ht=>?_⟩;rw[Tryz.params3] at ht;have hm:=Array.mem_of_getElem? ht;have ht2:t=9:=by simpa using hm
 rcases ht2 with rfl
 · exact (show Tryz.prog.wantsStandIn 9=false by kernel_rfl)
end Go.Proofs.YtgdndhedjlmagaaGreatDoor.Wraps
namespace Go.Proofs.YtgdndhedjlmagaaGreatDoor
theorem wraps_card:Rows.InferWrapsCardSaid :=
 Claim7.holds_tied_plain_at .later [] _ _ _ _ Wraps.said (λ_ h=>by cases h) kR (λ_ h=>by cases h) inferWraps_row_tie C ⟨C,C⟩ kR C Wraps.plain kR
end Go.Proofs.YtgdndhedjlmagaaGreatDoor
