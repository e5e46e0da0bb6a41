/- What it rests on, part 3. -/
import Derived.Test.YtelmolopaolbcaaGreatDoorGd2
import Derived.RangeFuncNested
import Derived.RangeFuncCalls
import Derived.RangeFuncLeaves
set_option linter.unusedVariables false
set_option linter.unusedSimpArgs false
namespace Go.Proofs.YtelmolopaolbcaaGreatDoor
open Go.SW Go.SP Go.RowKit Go.Proofs.Tryz
def gT:VV:=⟨[(74,4,5),(74,2,3),(76,3,3),(74,0,0),(74,1,1),(110,0,0),(108,3,4),(110,1,5),(76,0,0),(76,1,1),(84,0,0),(108,0,0),(108,1,1),(106,2,2),(76,2,2),(84,1,1),(120,0,0),(128,0,0),(128,1,4),(34,1,1),(108,2,3),(163,0,0),(163,2,2),(130,2,6),(130,1,1),(84,2,2),(84,4,4),(98,1,1),(98,2,2),(61,0,0),(106,1,1),(27,1,1),(27,0,0),(298,0,0),(163,1,1),(120,2,5),(120,1,1),(130,0,0),(118,1,1),(118,3,3),(118,0,0),(124,0,0),(124,2,2),(67,0,0),(67,1,2),(84,3,3),(91,1,1),(98,0,0),(40,0,0),(34,0,0),(40,1,1)],[(72,76,4),(46,74,6),(63,110,6),(54,3,1),(96,9,1),(25,34,2),(44,5,1),(121,124,6),(115,118,4),(37,40,3),(57,108,5),(111,63,1),(49,91,2)],[9],[],[(3,false,1),(9,false,1),(76,true,4),(27,true,2),(74,true,6),(46,false,1),(72,false,1),(110,true,6),(63,false,1),(54,false,1),(79,false,1),(4,false,1),(28,false,1),(120,true,6),(69,false,1),(49,false,1),(96,false,1),(108,true,5),(61,true,2),(57,false,1),(128,true,5),(118,true,4),(124,true,6),(67,true,3),(40,true,3),(34,true,2)],[(76,zT),(74,zN),(110,[iV 0,iV 0,iV 0,iV 0,.string ⟨#[]⟩,.slice none 0 0]),(27,[iV 0,iV 0]),(3,[iV 0]),(61,[iV 0,iV 0]),(103,[iV 0,iV 0]),(9,[.string ⟨#[]⟩]),(120,[.slice none 0 0,iV 0,iV 0,.string ⟨#[]⟩,.slice none 0 0,.slice none 0 0]),(28,[iV 0]),(108,[iV 0,iV 0,iV 0,iV 0,.string ⟨#[]⟩]),(67,[iV 0,iV 0,iV 0]),(128,[iV 0,iV 0,.string ⟨#[]⟩,.slice none 0 0,.slice none 0 0]),(130,[.string ⟨#[]⟩,iV 0,iV 0,.string ⟨#[]⟩,.slice none 0 0,.slice none 0 0,.pointer none]),(124,[.string ⟨#[]⟩,iV 0,iV 0,iV 0,.string ⟨#[]⟩,.slice none 0 0]),(118,[.string ⟨#[]⟩,.string ⟨#[]⟩,iV 0,iV 0]),(34,[.string ⟨#[]⟩,.string ⟨#[]⟩]),(46,[.slice none 0 0]),(54,[.slice none 0 0]),(163,[.map none,iV 0,iV 0]),(121,[.slice none 0 0]),(84,[.pointer none,.map none,.map none,.map none,iV 0]),(49,[.slice none 0 0]),(91,[.string ⟨#[]⟩,.string ⟨#[]⟩]),(98,[.map none,.slice none 0 0,.bool false]),(5,[.int .u8 0]),(40,[.string ⟨#[]⟩,.string ⟨#[]⟩,iV 0])],[(27,[(0,1),(1,1)]),(76,[(0,1),(1,1),(2,1),(3,1)]),(74,[(0,1),(1,2),(3,1),(4,1),(5,1)]),(103,[(0,2)]),(61,[(0,2)]),(108,[(0,1),(1,2),(3,1),(4,1)]),(128,[(0,4),(4,1)]),(130,[(0,1),(1,5),(6,1)]),(120,[(0,1),(1,4),(5,1)]),(163,[(0,1),(1,1),(2,1)]),(67,[(0,2),(2,1)]),(124,[(0,1),(1,1),(2,4)]),(118,[(0,1),(1,1),(2,1),(3,1)]),(84,[(0,1),(1,1),(2,1),(3,1),(4,1)]),(91,[(0,1),(1,1)]),(98,[(0,1),(1,1),(2,1)]),(34,[(0,1),(1,1)]),(40,[(0,1),(1,1),(2,1)])],[(79,163),(69,130)]⟩
theorem rG:gT.Ok prog:=⟨(aI dN (aI bZ (aI cD (aI cU (aI aB (aI WX (aI Y2 (aI Y6 (aI bM (aI aN (aI eF (aI XE (aI Xt (aI Qj (aI cM (aI dJ (aI Xn (aI Yt (aI Y1 (aI dR (aI Yh (aI Yq (aI Yl (aI ZM (aI Zp (aI dW (aI cH (aI bH (aI bR (aI cZ (aI EF (aI kA (aI jM (aI dG (aI YO (aI ZR (aI YK (aI Zr (aI YE (aI XW (aI Xk (aI Yu (aI XN (aI dV (aI eB (aI aC (aI cS (aI aM (aI aQ (aI cW (aI ZY tQ))))))))))))))))))))))))))))))))))))))))))))))))))),(aI Rn (aI MJ (aI Ku (aI oO (aI qC (aI pM (aI rZ (aI lZ (aI jQ (aI oH (aI GB (aI GC (aI qG tQ))))))))))))),(aI FD tQ),tQ,(aI Hq (aI Xf (aI AV (aI Ex (aI B4 (aI IX (aI YJ (aI iP (aI pR (aI OI (aI IC (aI Wo (aI Ht (aI gK (aI oG (aI XI (aI Lw (aI DF (aI pV (aI Dg (aI kZ (aI nH (aI mG (aI qY (aI sV (aI sQ tQ)))))))))))))))))))))))))),(aI rU (aI pH (aI iS (aI sM (aI uP (aI qE (aI gC (aI vE (aI mE (aI pA (aI Dn (aI sN (aI iC (aI iW (aI nC (aI jU (aI oB (aI sW (aI rV (aI mN (aI kH (aI oV (aI rC (aI sT (aI oK (aI vB (aI pZ tQ))))))))))))))))))))))))))),(aI pT (aI qQ (aI rX (aI oY (aI oD (aI Sg (aI gJ (aI gX (aI lM (aI gE (aI sF (aI gN (aI mL (aI qK (aI oJ (aI oQ (aI pS (aI oT tQ)))))))))))))))))),(aI rS (aI pW tQ))⟩
section
variable{n:Nat}{Q:AU}{ds:List Deferred}{X:Cx}{R:List RB}{B B0:List FB}{Fs:List (World→Fq→Prop)}{fs:List Fr}{σ:Bb}{H Hk:List HB}{l:List Oper}{J:World→Prop}{w:World}
theorem Aa{k:JZ}(m:Nat)(hs:List Nat)(h:ex prog n Q ds X R B Fs gT m hs k fs σ H):A3 prog n Q ds X R B Fs k fs σ H:=go rG m hs h
theorem A2{t:OT}(m:Nat)(hs:List Nat)(h:UY prog n Q ds X R B Fs gT l Hk B0 J m hs t σ H):CL prog n Q ds X R B Fs l Hk B0 J true t σ H:=wT rG m hs h
theorem AH{all r:List Oper}(fs:List Fr)(m:Nat)(hs:List Nat)(hB:BK w B)(h:Ja prog n Q ds w B gT m hs (.ops all r) fs σ):GO prog n all.toArray (L8 prog n Q fs) r σ ds w:=gL fs rG m hs hB h
theorem AQ{c:Code}(fs:List Fr)(m:Nat)(hs:List Nat)(hB:BK w B)(h:Ja prog n Q ds w B gT m hs (.code c) fs σ):GY prog n c (L8 prog n Q fs) σ ds w:=gP fs rG m hs hB h
theorem JA{e:Exit}(fs:List Fr)(m:Nat)(hs:List Nat)(hB:BK w B)(h:Ja prog n Q ds w B gT m hs (.out e) fs σ):(L8 prog n Q fs).q e σ ds w:=gQ fs rG m hs hB h
end
theorem UH{l:lU}(h:l≠[]):l[(0:Int).toNat]?=some (Yy l):=by cases l <;> simp_all [Yy]
theorem Co(w:World)(t:AK)(kv:Value) :
  Bo prog 41 #[.agg #[iV t.k,iV t.ln,iV t.co,iV t.nm,S t.tx,kv]] w λv w'=>v=.bool (t.k==0)∧AS w w':=by
 have hX:=AS.refl w;refine enter func41 rfl rfl rfl<|AQ [] 2 [] (Ar _) (λ_=>DK rfl rfl rfl λb1 w1 hb1 hE1 hs1 hz1=>?_);replace hX:=hX.trans hE1;exact AH [.sq _] 13 [0,0] (kB hb1 (Ar _)) (y2<|λ_=>Bm (A9 rfl (Ah rfl))<|⟨rfl,hX⟩)
theorem FE(w:World)(t:AK)(kv:Value) :
  Bo prog 42 #[.agg #[iV t.k,iV t.ln,iV t.co,iV t.nm,S t.tx,kv]] w λv w'=>v=.bool (t.k==5)∧AS w w':=by
 have hX:=AS.refl w;refine enter func42 rfl rfl rfl<|AQ [] 2 [] (Ar _) (λ_=>DK rfl rfl rfl λb1 w1 hb1 hE1 hs1 hz1=>?_);replace hX:=hX.trans hE1;exact AH [.sq _] 13 [0,0] (kB hb1 (Ar _)) (y2<|λ_=>Bm (A9 rfl (Ah rfl))<|⟨rfl,hX⟩)
theorem Dm(w:World)(t:AK)(kv:Value)(s:lU) :
  Bo prog 78 #[.agg #[iV t.k,iV t.ln,iV t.co,iV t.nm,S t.tx,kv],S s] w λv w'=>v=.bool (t.isWord s)∧AS w w':=by
 have hX:=AS.refl w;refine enter func78 rfl rfl rfl<|AQ [] 2 [] (Ar _) (λ_=>DK rfl rfl rfl λb1 w1 hb1 hE1 hs1 hz1=>?_);replace hX:=hX.trans hE1;refine AH [.sq _] 6 [0,0] (kB hb1 (Ar _)) (y2<|λ_=>A4 rfl (Aw Xp rfl rfl) (FE _ ⟨_,_,_,_,_⟩ _) ?_);rintro _ w2 ⟨rfl,hE2⟩;replace hb1:=hb1.ext hE2;replace hX:=hX.trans hE2;have sz1:=hE2.size;refine Ab rfl (Ay rfl)<|sL 7 rfl (λh1=>?_) (λh1=>?_);exact AH [.sq _] 10 [0,4] (kB hb1 (Ar _)) (y2<|λ_=>Bm (A9 rfl (Ah rfl))<|⟨by simp[AK.isWord,h1],hX⟩);exact AH [.sq _] 10 [] (Ar _) (λ_=>Bm (A9 rfl (Ah rfl))<|⟨by simp[AK.isWord,h1],hX⟩)
theorem CO(w:World)(n lo hi:Int) :
  Bo prog 79 #[iV n,iV lo,iV hi] w λv w'=>v=.bool (SP.within n lo hi)∧AS w w':=by
 have hX:=AS.refl w;refine enter func79 rfl rfl rfl<|AQ [] 11 [] (Ar _) (λ_=>sL 10 rfl (λh1=>?_) (λh1=>?_));exact AH [.sq _] 8 [] (Ar _) (λ_=>Bm (A9 rfl (Ah rfl))<|⟨by simp[SP.within,h1],hX⟩);exact AH [.sq _] 8 [] (Ar _) (λ_=>Bm (A9 rfl (Ah rfl))<|⟨by simp[SP.within,h1],hX⟩)
theorem En(w:World)(hG:Gl w)(t:AK)(kv:Value)(htx:t.k=5→t.tx≠[])(hlen:t.tx.length≤100000) :
  Bo prog 47 #[.agg #[iV t.k,iV t.ln,iV t.co,iV t.nm,S t.tx,kv]] w λv w'=>v=.bool t.isVar∧AS w w':=by
 have hX:=AS.refl w;refine enter func47 rfl rfl rfl<|AQ [] 2 [] (Ar _) (λ_=>DK rfl rfl rfl λb1 w1 hb1 hE1 hs1 hz1=>?_);replace hX:=hX.trans hE1;refine AH [.sq _] 6 [0,0] (kB hb1 (Ar _)) (y2<|λ_=>A4 rfl (Aw Xp rfl rfl) (FE _ ⟨_,_,_,_,_⟩ _) ?_);rintro _ w2 ⟨rfl,hE2⟩;replace hb1:=hb1.ext hE2;replace hX:=hX.trans hE2;have sz1:=hE2.size;refine Ab rfl (Ay rfl)<|sL 5 rfl (λh1=>?_) (λh1=>?_);refine AH [.sq _] 6 [0,4] (kB hb1 (Ar _)) (y2<|λ_=>sL 11 rfl (λh2=>?_) (λh2=>?_));refine AH [.sq _] 3 [0,4] (kB hb1 (Ar _)) (y2<|λ_=>B7 rfl rfl rfl<|Ab rfl (Dd rfl rfl IU dC (UH (htx (by simpa using h1))))<|AH [.sq _] 3 [] (Ar _) (λ_=>sL 18 rfl (λh3=>?_) (λh3=>?_)));refine AH [.sq _] 3 [0,4] (kB hb1 (Ar _)) (y2<|λ_=>B7 rfl rfl rfl<|Ab rfl (Jt rfl rfl (by simp;omega))<|B7 rfl rfl rfl<|Ab rfl (Jt rfl rfl (by simp;omega))<|B7 rfl rfl rfl<|A4 rfl (Aw eN rfl rfl) (Hm _ (hG.ext hX) _ _ dC) ?_);rintro _ w3 ⟨rfl,hE3⟩;replace hb1:=hb1.ext hE3;replace hX:=hX.trans hE3;have sz2:=hE3.size;refine AH [.sq _] 6 [] (Ar _) (λ_=>Bm (A9 rfl (Ah rfl))<|⟨?_,hX⟩);show _=Value.bool (t.k==5&&(!(t.tx==[95])&&(((Yy t.tx).toNat:Int) != 39&&!N4 t.tx)));rw[h1,h2,h3];rfl;refine AH [.sq _] 12 [] (Ar _) (λ_=>Bm (A9 rfl (Ah rfl))<|⟨?_,hX⟩);show _=Value.bool (t.k==5&&(!(t.tx==[95])&&(((Yy t.tx).toNat:Int) != 39&&!N4 t.tx)));simp[h1,h2,h3];refine AH [.sq _] 19 [] (Ar _) (λ_=>Bm (A9 rfl (Ah rfl))<|⟨?_,hX⟩);show _=Value.bool (t.k==5&&(!(t.tx==[95])&&(((Yy t.tx).toNat:Int) != 39&&!N4 t.tx)));simp[h1,h2];refine AH [.sq _] 25 [] (Ar _) (λ_=>Bm (A9 rfl (Ah rfl))<|⟨?_,hX⟩);show _=Value.bool (t.k==5&&(!(t.tx==[95])&&(((Yy t.tx).toNat:Int) != 39&&!N4 t.tx)));simp[h1]
theorem Jd(w:World)(hG:Gl w)(t:AK)(kv:Value)(htx:t.k=5→t.tx≠[])(hlen:t.tx.length≤100000) :
  Bo prog 110 #[.agg #[iV t.k,iV t.ln,iV t.co,iV t.nm,S t.tx,kv]] w λv w'=>v=.bool t.isHole∧AS w w':=by
 have hX:=AS.refl w;refine enter func110 rfl rfl rfl<|AQ [] 2 [] (Ar _) (λ_=>DK rfl rfl rfl λb1 w1 hb1 hE1 hs1 hz1=>?_);replace hX:=hX.trans hE1;refine AH [.sq _] 6 [0,0] (kB hb1 (Ar _)) (y2<|λ_=>A4 rfl (Aw fU rfl rfl) (En _ (hG.ext hX) ⟨_,_,_,_,_⟩ _ htx hlen) ?_);rintro _ w2 ⟨rfl,hE2⟩;replace hb1:=hb1.ext hE2;replace hX:=hX.trans hE2;have sz1:=hE2.size;refine Ab rfl (Ay rfl)<|sL 5 rfl (λh1=>?_) (λh1=>?_);exact AH [.sq _] 7 [] (Ar _) (λ_=>Bm (A9 rfl (Ah rfl))<|⟨by simp[AK.isHole,h1],hX⟩);refine AH [.sq _] 1 [0,0] (kB hb1 (Ar _)) (y2<|λ_=>B7 rfl rfl rfl<|A4 rfl (Aw rO rfl rfl) (Dm _ ⟨_,_,_,_,_⟩ _ _) ?_);rintro _ w3 ⟨rfl,hE3⟩;replace hb1:=hb1.ext hE3;replace hX:=hX.trans hE3;have sz2:=hE3.size;exact AH [.sq _] 5 [] (Ar _) (λ_=>Bm (A9 rfl (Ah rfl))<|⟨by simp[AK.isHole,h1],hX⟩)
theorem FQ(w:World)(hG:Gl w)(t:AK)(kv:Value)(htx:t.k=5→t.tx≠[])(hlen:t.tx.length≤100000) :
  Bo prog 43 #[.agg #[iV t.k,iV t.ln,iV t.co,iV t.nm,S t.tx,kv]] w λv w'=>v=.bool t.isTypeName∧AS w w':=by
 have hX:=AS.refl w;refine enter func43 rfl rfl rfl<|AQ [] 2 [] (Ar _) (λ_=>DK rfl rfl rfl λb1 w1 hb1 hE1 hs1 hz1=>?_);replace hX:=hX.trans hE1;refine AH [.sq _] 6 [0,0] (kB hb1 (Ar _)) (y2<|λ_=>A4 rfl (Aw fU rfl rfl) (En _ (hG.ext hX) ⟨_,_,_,_,_⟩ _ htx hlen) ?_);rintro _ w2 ⟨rfl,hE2⟩;replace hb1:=hb1.ext hE2;replace hX:=hX.trans hE2;have sz1:=hE2.size;refine Ab rfl (Ay rfl)<|sL 5 rfl (λh1=>?_) (λh1=>?_);refine AH [.sq _] 3 [0,4] (kB hb1 (Ar _)) (y2<|λ_=>B7 rfl rfl rfl<|Ab rfl (Jt rfl rfl (by simp;omega))<|B7 rfl rfl rfl<|Ab rfl (Jt rfl rfl (by simp;omega))<|B7 rfl rfl rfl<|A4 rfl (Aw eN rfl rfl) (Hm _ (hG.ext hX) _ _ dC) ?_);rintro _ w3 ⟨rfl,hE3⟩;replace hb1:=hb1.ext hE3;replace hX:=hX.trans hE3;have sz2:=hE3.size;refine AH [.sq _] 6 [] (Ar _) (λ_=>Bm (A9 rfl (Ah rfl))<|⟨?_,hX⟩);show _=Value.bool (t.isVar&&!SQ t.tx);rw[h1];rfl;refine AH [.sq _] 12 [] (Ar _) (λ_=>Bm (A9 rfl (Ah rfl))<|⟨?_,hX⟩);show _=Value.bool (t.isVar&&!SQ t.tx);simp[h1]
theorem IH(w:World)(t:AK)(kv:Value)(htx:t.k=5→t.tx≠[]) :
  Bo prog 44 #[.agg #[iV t.k,iV t.ln,iV t.co,iV t.nm,S t.tx,kv]] w λv w'=>v=.bool t.isTypeVar∧AS w w':=by
 have hX:=AS.refl w;refine enter func44 rfl rfl rfl<|AQ [] 2 [] (Ar _) (λ_=>DK rfl rfl rfl λb1 w1 hb1 hE1 hs1 hz1=>?_);replace hX:=hX.trans hE1;refine AH [.sq _] 6 [0,0] (kB hb1 (Ar _)) (y2<|λ_=>A4 rfl (Aw Xp rfl rfl) (FE _ ⟨_,_,_,_,_⟩ _) ?_);rintro _ w2 ⟨rfl,hE2⟩;replace hb1:=hb1.ext hE2;replace hX:=hX.trans hE2;have sz1:=hE2.size;refine Ab rfl (Ay rfl)<|sL 5 rfl (λh1=>?_) (λh1=>?_);refine AH [.sq _] 3 [0,4] (kB hb1 (Ar _)) (y2<|λ_=>B7 rfl rfl rfl<|Ab rfl (Dd rfl rfl IU dC (UH (htx (by simpa using h1))))<|AH [.sq _] 3 [] (Ar _) (λ_=>sL 12 rfl (λh2=>?_) (λh2=>?_)));refine AH [.sq _] 10 [0,4] (kB hb1 (Ar _)) (y2<|λ_=>Bm (A9 rfl (Ah rfl))<|⟨?_,hX⟩);show _=Value.bool (t.k==5&&(((Yy t.tx).toNat:Int)==39&&decide (1<(t.tx.length:Int))));rw[h1,h2];rfl;refine AH [.sq _] 10 [] (Ar _) (λ_=>Bm (A9 rfl (Ah rfl))<|⟨?_,hX⟩);show _=Value.bool (t.k==5&&(((Yy t.tx).toNat:Int)==39&&decide (1<(t.tx.length:Int))));simp[h1,h2];refine AH [.sq _] 17 [] (Ar _) (λ_=>Bm (A9 rfl (Ah rfl))<|⟨?_,hX⟩);show _=Value.bool (t.k==5&&(((Yy t.tx).toNat:Int)==39&&decide (1<(t.tx.length:Int))));simp[h1]
theorem HY(w:World)(t:AK)(kv:Value) :
  BB prog 51 #[.agg #[iV t.k,iV t.ln,iV t.co,iV t.nm,S t.tx,kv]] w (λv w'=>False) (λc w'=>c=Qq 61 (t.ln,t.co)∧AS w w'):=by
 have hX:=AS.refl w;refine HO func51 rfl rfl rfl<|AQ [] 2 [] (Ar _) (λ_=>DK rfl rfl rfl λb1 w1 hb1 hE1 hs1 hz1=>?_);replace hX:=hX.trans hE1;exact AH [.sq _] 7 [0,1] (kB hb1 (Ar _)) (y2<|λ_=>Ab rfl (BL rfl aF)<|Cf (BA rfl) (aI rfl<|⟨rfl,hX⟩))
theorem Tf(w:World)(t:AK)(kv:Value)(ok:Bool) :
  BB prog 40 #[.agg #[iV t.k,iV t.ln,iV t.co,iV t.nm,S t.tx,kv],.bool ok] w (λv w'=>ok=true∧v=.tuple #[]∧AS w w') (λc w'=>ok=false∧c=Qq 61 (t.ln,t.co)∧AS w w'):=by
 have hX:=AS.refl w;refine HO func40 rfl rfl rfl<|AQ [] 2 [] (Ar _) (λ_=>DK rfl rfl rfl λb1 w1 hb1 hE1 hs1 hz1=>?_);replace hX:=hX.trans hE1;refine AH [.sq _] 8 [] (Ar _) (λ_=>sP 5 rfl (λh1=>?_) (λh1=>?_));replace h1:=EU h1;refine AQ [] 3 [0,0] (kB hb1 (Ar _)) (y2<|λ_=>BX rfl (Aw pN rfl rfl) (HY _ ⟨_,_,_,_,_⟩ _) (λ_ _ hf=>hf.elim) (λc wp hc=>aI rfl (⟨h1,hc.1,hX.trans hc.2⟩)));replace h1:=Fj h1;exact AQ [] 2 [] (Ar _) (λ_=>FP (D1 rfl)<|⟨h1,rfl,hX⟩)
theorem A8(w:World)(t:AK)(kv:Value)(op:Int)(tx:lU)(ka:Option Addr)(kn kc:Nat) :
  Bo prog 45 #[.agg #[iV t.k,iV t.ln,iV t.co,iV t.nm,S t.tx,kv],iV op,S tx,.slice ka kn kc] w λv w'=>v=.agg #[iV op,iV t.ln,iV t.co,S tx,iV 0,.slice ka kn kc]∧AS w w':=by
 have hX:=AS.refl w;refine enter func45 rfl rfl rfl<|AQ [] 2 [] (Ar _) (λ_=>DK rfl rfl rfl λb1 w1 hb1 hE1 hs1 hz1=>?_);replace hX:=hX.trans hE1;refine C1 rfl uJ λb2 w2 hb2 hE2 hs2 hz2=>?_;replace hb1:=hb1.ext hE2;replace hX:=hX.trans hE2;refine AH [.sq _] 11 [0,1] (kB hb1 (Ar _)) (y2<|λ_=>A1 rfl rfl rfl qM rfl hb2 rfl rfl λw3 hb3 hC1=>?_);replace hb1:=hb1.chg hC1 oM;replace hX:=hX.chg hC1 oM;have sz1:=hC1.size;exact AH [.sq _] 3 [] (Ar _) (λ_=>Bm (A9 rfl (Ac rfl qM hb3 rfl))<|⟨rfl,hX⟩)
def Db(w:World)(f:Fq):Prop:=∀w' f',Hp w f w' f'→Gl w'
theorem Db.mono:Fc (λw f=>Db w f):=λ_ _ _ _ h hF w' f' hF'=>h w' f' (hF.trans hF')
variable {f:Fq}{w:World}
theorem Db.gl(h:Db w f):Gl w:=h w f (Hp.refl _ _)
theorem GH(fid:Nat)(he:B3 prog fid)(m:AK→Fo→R N)(D:AK→Fo→Prop)(hm:∀ (w:World) (f:Fq) (_:Vl w f) (_:Db w f) (t:AK) (k:Fo) (a:Option Addr) (c:Nat),D t k→DH w f k a c→BB prog fid #[fV t a k.len c] w (Hy (m t k) w f) (HT 61 (m t k) w f))(w:World)(f:Fq)(hv:Vl w f)(hJ:Db w f)(l:Fo)(la:Option Addr)(lc:Nat)(hD:l.all D)(hlen:l.len≤100000)(hL:DH w f l la lc) :
  BB prog 18 #[.slice la l.len lc,.func (.func fid) #[] #[]] w (Xe (α:=Nd×List Value) 74 6 (λx=>x.1.len) (λx=>x.2) (λx=>Bj m l=.ok x.1) (λx=>[λw f=>BU w f x.1 x.2]) w f) (Rr 61 (λe=>Bj m l=.error e) w f):=by
 refine Mr (X:=X0 w f) (H:=[]) (R:=[]) (B:=[]) (Fs:=[λw f=>DH w f l la lc,λw f=>Db w f]) (f:=f) func18 rfl rfl rfl (BR hv ⟨hL,hJ,tQ⟩ ⟨DH.mono,Db.mono,tQ⟩)<|Aa 19 [] (λ_=>NK 74 6 ?_);refine Fp (α:=Nat×Fo×Nd×List Value×Option Addr×Nat) (λx=>x.2.1.len) (λx=>x.1+x.2.1.len=l.len∧x.2.2.1.len=x.1∧(Bj m l=match Bj m x.2.1 with|.error e=>.error e|.ok b=>.ok (x.2.2.1.app b))∧x.2.1.all D) (λx=>(E5 1 (.func (.func fid) #[] #[]) 5 (.slice x.2.2.2.2.1 x.1 x.2.2.2.2.2) 8 (.slice la l.len lc) 9 (iV (l.len:Int)) 10 (iV (x.1:Int)))) (λx=>X0 w f) (λx=>[]) (λx=>[⟨74,6,x.2.2.2.2.1,x.2.2.2.2.2,x.1,x.2.2.2.1⟩]) (λx=>[]) (λx=>[λw f=>EH w f la x.1 x.2.1,λw f=>BU w f x.2.2.1 x.2.2.2.1,λw f=>Db w f]) (0,l,.nil,[],none,0) ⟨Nat.zero_add _,rfl,QY,hD⟩ lE (λw f hM=>hM.more (B':=[]) (F':=[λw f=>EH w f la 0 l,λw f=>BU w f .nil []]) nE (AE.mem ⟨DH.at hM.f0,rfl,tQ⟩) (Ax.mem ⟨EH.mono,BU.mono,tQ⟩) |>.less sR sR nE (mR [0,1,3])) ?_;rintro⟨i,r,dn,xs,ra,rc⟩ ⟨hi,hdl,hea,hrd⟩;dsimp only at hi hdl hea hrd ⊢;refine Aa 6 [] (λ_=>AJ 11 rfl rfl (λh1=>?_) (λh1=>?_));refine Aa 6 [] (λ_=>?_);have hil:i<l.len:=by have:=of_decide_eq_true h1;omega
 obtain⟨t,k,r,rfl⟩:=Fo.cases1 r oM;have hi2:i+(r.len+1)=l.len:=hi;refine MM 0 rfl ?_;rintro⟨eb,eo,ka,kc⟩ rfl;refine Aa 11 [100,0,0,0] (aI oM<|y2<|λb1=>y<|y<|λ_=>?_);refine J0 rfl rfl (eC he rfl rfl) (λw f hM=>hm w f hM.vl hM.f4 t k ka kc hrd.1 hM.f0) (λ_=>⟨AD.mono,tQ⟩) (λe w2 f2 he hE=>⟨rfl,e,f2,rfl,(by rw[hea];exact W5 he),hE⟩) ?_;rintro⟨nd,na,nc⟩ hnd;dsimp only at hnd ⊢;exact Aa 1 [] (λb2=>λ_=>Da 0 0 rfl rfl L0 rfl rfl rfl rfl rfl rfl rfl rfl (λ_ _=>rfl) oM oM λra2 rc2=>Aa 8 [] (aI ⟨oM,oM⟩<|λ_=>CX ((i+1,r,dn.app nd.one,xs++Kc nd.op nd.ln nd.co nd.tx nd.nm na nd.kids.len nc,ra2,rc2)) (show r.len<r.len+1 from Nat.lt_succ_self _) ⟨show i+1+r.len=_ by omega,show (dn.app nd.one).len=i+1 by rw[Nd.app_len,hdl];rfl,hea.trans (Ub hnd),hrd.2⟩ lE (λw f hM=>⟨_,(hM.more (B':=[]) (F':=[λw f=>BU w f (dn.app nd.one) (xs++Kc nd.op nd.ln nd.co nd.tx nd.nm na nd.kids.len nc)]) nE (AE.mem ⟨BU.app (BU.one hM.f0) hM.f4,tQ⟩) (Ax.mem ⟨BU.mono,tQ⟩)).less (sD (sD sZ)) sR nE (mR [3,0,6])⟩)));refine Aa 3 [] (λ_=>ES<|Aa 3 [] (λ_=>?_));obtain rfl:r=.nil:=Fo.len0 (by have:=of_decide_eq_false h1;omega);subst hdl;exact Aa 6 [] (λ_=>AL (C4 rfl rfl) (λw f hM=>⟨(dn,xs),ra,rc,f,rfl,(by rw[hea];show (Except.ok (dn.app .nil):R Nd)=_;rw[Nd.app_nil]),hM.exm,hM.row _ (.head _),(λb hb=>⟨hM.rnw _ (.head _) b hb,(hM.own b (List.mem_append.2 (.inr (List.mem_filterMap.2 ⟨_,.head _,hb⟩)))).1⟩),⟨hM.f1,tQ⟩⟩))
variable {Q:AU}{af:Array Edge}{σ:Bb}{X:Cx}{Fs:List (World→Fq→Prop)}{ds:List Deferred}{B:List FB}{fs:List Fr}{H:List HB}{d n:Nat}{g:Option (Nat×Bool)}{pos:String}{ty:TypeId}
theorem AX{R:List RB}{all r:List Oper}{op:Op}{t:AK}{kv:Value}{b:Bool}
  (hg:gd all σ g=some true) (hd:Nat.blt d n=true) (he:∀w,SW.Enters prog σ op ty w 40 #[.agg #[iV t.k,iV t.ln,iV t.co,iV t.nm,S t.tx,kv],.bool b]) (hp:∀w' f',b=false→C2 X.M X.w0 X.f0 w' f'→Q.p (Qq 61 (t.ln,t.co)) σ ds w')
  (h:b=true→A3 prog n Q ds X R B Fs (.ops all r) fs (AA σ d (.tuple #[])) H):A3 prog n Q ds X R B Fs (.ops all (⟨some d,op,ty,pos,af,g⟩::r)) fs σ H :=
 J0 (α:=Unit) (val:=λ_=>.tuple #[]) (q:=λ_=>b=true) (F':=λ_=>[]) (pe:=λe=>b=false∧e=(t.ln,t.co)) (T:=61) hg hd he (λw f hM=>(Tf w t _ _).mono (λ_ w2 ⟨h1,h2,h3⟩=>⟨(),f,h2,h1,C2.of_ext h3 hM.vl,tQ⟩) λ_ w2 ⟨h1,h2,h3⟩=>⟨_,f,h2,⟨h1,rfl⟩,C2.of_ext h3 hM.vl⟩) (λ_=>trivial) (λe w2 f2 ⟨he,he2⟩ hE=>by subst he2;exact hp w2 f2 he hE) (λ_ h1=>h h1)
theorem BM(fid:Nat)(he:B3 prog fid)(m:AK→Fo→R N)(D:AK→Fo→Prop)(hm:∀ (w:World) (f:Fq) (_:Vl w f) (_:Db w f) (t:AK) (k:Fo) (a:Option Addr) (c:Nat),D t k→DH w f k a c→BB prog fid #[fV t a k.len c] w (Hy (m t k) w f) (HT 61 (m t k) w f))(w:World)(f:Fq)(hv:Vl w f)(hJ:Db w f)(l:Fo)(la:Option Addr)(lc:Nat)(hD:l.all D)(hlen:l.len≤100000)(hL:DH w f l la lc) :
  BB prog 18 #[.slice la l.len lc,.func (.func fid) #[] #[]] w (Bw (α:=(Nd×List Value)×Option Addr×Nat) (λy=>.slice y.2.1 y.1.1.len y.2.2) (λy=>Bj m l=.ok y.1.1) (λy=>[λw f=>AD w f y.1.1 y.2.1 y.2.2]) w f) (Rr 61 (λe=>Bj m l=.error e) w f) :=
 (GH fid he m D hm w f hv hJ l la lc hD hlen hL).mono (λ_ _ h=>Xe.fro hv h) λ_ _ h=>h
theorem Rj(w:World)(f:Fq)(hv:Vl w f)(hJ:Db w f)(l:Fo)(la:Option Addr)(lc:Nat)(hD:l.all (λt _=>t.ok))(hlen:l.len≤100000)(hL:DH w f l la lc) :
  Bo prog 108 #[.slice la l.len lc] w (Bw (α:=Unit) (λ_=>.bool (ML l)) (λ_=>True) (λ_=>[]) w f):=by
 refine Ch (X:=X0 w f) (H:=[]) (R:=[]) (B:=[]) (Fs:=[λw f=>DH w f l la lc,λw f=>Db w f]) (f:=f) func108 rfl rfl rfl (BR hv ⟨hL,hJ,tQ⟩ ⟨DH.mono,Db.mono,tQ⟩)<|Aa 14 [] (λ_=>?_);refine Fp (α:=Nat×Fo) (λx=>x.2.len) (λx=>x.1+x.2.len=l.len∧ML l=ML x.2∧x.2.all (λt _=>t.ok)) (λx=>(E3 5 (.slice la l.len lc) 6 (iV (l.len:Int)) 7 (iV (x.1:Int)))) (λx=>X0 w f) (λx=>[]) (λx=>[]) (λx=>[]) (λx=>[λw f=>EH w f la x.1 x.2,λw f=>Db w f]) (0,l) ⟨Nat.zero_add _,rfl,hD⟩ lE (λw f hM=>hM.more (B':=[]) (F':=[λw f=>EH w f la 0 l]) nE (AE.mem ⟨DH.at hM.f0,tQ⟩) (Ax.mem ⟨EH.mono,tQ⟩) |>.less sR sR nE (mR [0,2])) ?_;rintro⟨i,r⟩ ⟨hi,hea,hrd⟩;dsimp only at hi hea hrd ⊢;refine Aa 6 [] (λ_=>AJ 8 rfl rfl (λh1=>?_) (λh1=>?_));refine Aa 6 [] (λ_=>?_);have hil:i<l.len:=by have:=of_decide_eq_true h1;omega
 obtain⟨t,k,r,rfl⟩:=Fo.cases1 r oM;have hi2:i+(r.len+1)=l.len:=hi;refine MM 0 rfl ?_;rintro⟨eb,eo,ka,kc⟩ rfl;refine Aa 10 [100,0,0,0] (aI oM<|y2<|λb1=>y<|y<|λ_=>CN rfl rfl (eC OZ rfl rfl) (λw f hM=>Jd _ (Db.gl hM.f3) t _ hrd.1.1 hrd.1.2)<|Aa 3 [] (λ_=>AJ 13 rfl rfl (λh2=>?_) (λh2=>?_)));replace h2:=EU h2;exact Aa 9 [] (λ_=>UF<|Aa 2 [] (λ_=>AL (C4 rfl rfl) (λw f hM=>⟨(),f,(by rw[hea];show _=Value.bool (t.isHole&&ML r);rw[h2];rfl),tQ,hM.exm,tQ⟩)));replace h2:=Fj h2;exact Aa 8 [] (aI ⟨oM,oM⟩<|λ_=>CX ((i+1,r)) (show r.len<r.len+1 from Nat.lt_succ_self _) ⟨show i+1+r.len=_ by omega,hea.trans (by show (t.isHole&&ML r)=_;rw[h2];rfl),hrd.2⟩ lE (λw f hM=>⟨_,hM.less (sD sZ) sR nE (mR [1,3])⟩));refine Aa 3 [] (λ_=>ES<|Aa 3 [] (λ_=>?_));obtain rfl:r=.nil:=Fo.len0 (by have:=of_decide_eq_false h1;omega);exact Aa 5 [] (λ_=>AL (C4 rfl rfl) (λw f hM=>⟨(),f,(by rw[hea];rfl),tQ,hM.exm,tQ⟩))
theorem M8(w:World)(f:Fq)(hv:Vl w f)(hJ:Db w f)(t:AK)(k:Fo)(ka:Option Addr)(kc:Nat) :
  Bo prog 109 #[fV t ka k.len kc] w (Hy (I6 t k) w f):=by
 refine Ch (X:=X0 w f) (H:=[]) (R:=[]) (B:=[]) (Fs:=[λw f=>Db w f]) (f:=f) func109 rfl rfl rfl (BR hv ⟨hJ,tQ⟩ ⟨Db.mono,tQ⟩)<|Aa 10 [1] (λb1=>λb2=>y<|λ_=>CN rfl rfl (eC JT rfl rfl) (λw f hM=>Dm _ t _ _)<|Aa 2 [] (λ_=>AJ 4 rfl rfl (λh1=>?_) (λh1=>?_)));exact Aa 4 [1] (y<|λ_=>CN rfl rfl (eC Bf rfl rfl) (λw f hM=>A8 _ t _ _ _ _ _ _)<|Aa 5 [0] (y<|λ_=>AL (λw f hM=>A9 rfl (Ac rfl B4 hM.k0 rfl)) (λw f hM=>⟨(⟨21,t.ln,t.co,[],0,.nil⟩,none,0),f,rfl,(by simp[I6,Az,h1]),hM.exm,⟨⟨Nat.zero_le _,.inl rfl⟩,tQ⟩⟩)));exact Aa 9 [1,1] (y<|y<|λ_=>CN rfl rfl (eC Bf rfl rfl) (λw f hM=>A8 _ t _ _ _ _ _ _)<|Aa 4 [0] (y<|λ_=>AL (λw f hM=>A9 rfl (Ac rfl B4 hM.k0 rfl)) (λw f hM=>⟨(⟨22,t.ln,t.co,t.tx,0,.nil⟩,none,0),f,rfl,(by simp[I6,Az,h1]),hM.exm,⟨⟨Nat.zero_le _,.inl rfl⟩,tQ⟩⟩)))
theorem Sk(n:Nat)(ih:∀n',n=n'+1→∀ (w:World) (f:Fq) (_:Vl w f) (_:Db w f) (t:AK) (k:Fo) (a:Option Addr) (c:Nat),Gp n' t k→DH w f k a c→BB prog 133 #[fV t a k.len c] w (Hy (DT (n'+1) t k) w f) (HT 61 (DT (n'+1) t k) w f))(w:World)(f:Fq)(hv:Vl w f)(hJ:Db w f)(t:AK)(k:Fo)(ka:Option Addr)(kc:Nat)(hp:Gp n t k)(hL:DH w f k ka kc) :
  BB prog 133 #[fV t ka k.len kc] w (Hy (DT (n+1) t k) w f) (HT 61 (DT (n+1) t k) w f):=by
 refine Mr (X:=X0 w f) (H:=[]) (R:=[]) (B:=[]) (Fs:=[λw f=>DH w f k ka kc,λw f=>Db w f]) (f:=f) func133 rfl rfl rfl (BR hv ⟨hL,hJ,tQ⟩ ⟨DH.mono,Db.mono,tQ⟩)<|Aa 21 [1] (λb1=>λb2=>y<|λ_=>AJ 8 rfl rfl (λh1=>?_) (λh1=>?_));exact Aa 16 [1,1,0] (y<|y<|y<|λ_=>AL (λw f hM=>A9 rfl (Ac rfl B4 hM.k0 rfl)) (λw f hM=>⟨(⟨23,t.ln,t.co,[],t.nm,.nil⟩,none,0),f,rfl,(by unfold DT;simp[SP.need,Az,h1]),hM.exm,⟨⟨Nat.zero_le _,.inl rfl⟩,tQ⟩⟩));refine Aa 7 [] (λ_=>AJ 17 rfl rfl (λh2=>?_) (λh2=>?_));exact Aa 7 [1,1] (y<|y<|λ_=>CN rfl rfl (eC Bf rfl rfl) (λw f hM=>A8 _ t _ _ _ _ _ _)<|Aa 6 [0] (y<|λ_=>AL (λw f hM=>A9 rfl (Ac rfl B4 hM.k0 rfl)) (λw f hM=>⟨(⟨24,t.ln,t.co,t.tx,0,.nil⟩,none,0),f,rfl,(by unfold DT;simp[SP.need,Az,h1,h2]),hM.exm,⟨⟨Nat.zero_le _,.inl rfl⟩,tQ⟩⟩)));refine Aa 7 [] (λ_=>AJ 24 rfl rfl (λh3=>?_) (λh3=>?_));exact Aa 7 [1,1] (y<|y<|λ_=>CN rfl rfl (eC Bf rfl rfl) (λw f hM=>A8 _ t _ _ _ _ _ _)<|Aa 6 [0] (y<|λ_=>AL (λw f hM=>A9 rfl (Ac rfl B4 hM.k0 rfl)) (λw f hM=>⟨(⟨26,t.ln,t.co,t.tx,0,.nil⟩,none,0),f,rfl,(by unfold DT;simp[SP.need,Az,h1,h2,h3]),hM.exm,⟨⟨Nat.zero_le _,.inl rfl⟩,tQ⟩⟩)));refine Aa 7 [] (λ_=>AJ 31 rfl rfl (λh4=>?_) (λh4=>?_));refine Aa 2 [] (λ_=>C3 [0,1] Am (.rd 0 (.rd 1 (.br 2 (.br 3 .fin .fin) .fin))) rfl kR<|A2 2 [1,1] (y<|y<|λ_=>Ag rfl ?_ Aj));refine CN rfl rfl (eC OZ rfl rfl) (λw f hM=>Jd _ (Db.gl hM.f1) t _ hp.1.1 hp.1.2)<|Aa 1 [] (λ_=>Au [0,1] rfl<|Ag rfl ?_ Aj);refine AX rfl rfl (eC AB rfl rfl) (λw2 f2 he hE=>⟨rfl,_,f2,rfl,(by unfold DT;simp[SP.need,Az,he,h1,h2,h3,h4]),hE⟩) λhn1=>Aa 1 [] (λ_=>Au [0,1] rfl<|Bk<|Aa 4 [1] (y<|λ_=>Br rfl rfl (eC UJ rfl rfl) (λw f hM=>M8 w f hM.vl hM.f1 t _ _ _) (λ_=>⟨AD.mono,tQ⟩) ?_));rintro⟨nd1,and1,cnd1⟩ hnd1;dsimp only at hnd1 ⊢;exact Aa 6 [0] (y<|λ_=>AL (λw f hM=>A9 rfl (Ac rfl B4 hM.k0 rfl)) (λw f hM=>⟨(nd1,and1,cnd1),f,rfl,(by unfold DT;simp[SP.need,Az,h1,h2,h3,h4,hn1,hnd1]),hM.exm,⟨hM.f0,tQ⟩⟩));refine Aa 7 [] (λ_=>AJ 39 rfl rfl (λh5=>?_) (λh5=>?_));exact Aa 3 [1] (y<|λ_=>iH rfl rfl (eC TJ rfl rfl) (pe:=λe=>e=(t.ln,t.co)) (T:=61) (λw f hM=>(HY w t _).mono (λ_ _ h=>h.elim) λ_ w2 ⟨h1,h2⟩=>⟨_,f,h1,rfl,C2.of_ext h2 hM.vl⟩) (λe w2 f2 he hE=>by subst he;exact⟨rfl,_,f2,rfl,(by unfold DT;simp[SP.need,Az,h1,h2,h3,h4,h5]),hE⟩));refine Aa 13 [1] (y<|λ_=>AJ 46 rfl rfl (λh6=>?_) (λh6=>?_));refine Aa 2 [] (λ_=>?_);obtain rfl:k=.nil:=Fo.len0 (by have h9:((k.len:Int)==0)=true:=h6;have:=beq_iff_eq.1 h9;omega);exact Aa 2 [1] (y<|λ_=>CN rfl rfl (eC Bf rfl rfl) (λw f hM=>A8 _ t _ _ _ _ _ _)<|Aa 5 [0] (y<|λ_=>AL (λw f hM=>A9 rfl (Ac rfl B4 hM.k0 rfl)) (λw f hM=>⟨(⟨25,t.ln,t.co,[],0,.nil⟩,none,0),f,rfl,(by unfold DT;simp[SP.need,Az,h1,h2,h3,h4,h5,h6]),hM.exm,⟨⟨Nat.zero_le _,.inl rfl⟩,tQ⟩⟩)));refine Aa 4 [] (λ_=>?_);obtain⟨h,hk,r,rfl⟩:=Fo.cases1 k (by have h9:((k.len:Int)==0)=false:=h6;have:=beq_eq_false_iff_ne.1 h9;omega)
 obtain⟨hto,hko,hkl,hdp⟩:=hp;have hkl2:r.len+1≤100000:=hkl;obtain⟨n,rfl⟩:∃q,n=q+1:=by cases n with|zero=>exact absurd hdp (by simp[Fo.deep])|succ q=>exact⟨q,rfl⟩
 simp only[Fo.deep,Bool.and_eq_true] at hdp;refine jX 0 rfl<|P4 1 rfl<|MM 0 rfl ?_;rintro⟨eb,eo,hka,hkc⟩ rfl;refine C3 [0,1] Am (rd [0,1,2,3,4,5,6] (.br 7 (.br 8 (.rd 9 .fin) .fin) .fin)) rfl kR<|A2 6 [1,100,0,1] (y<|aI (by simp only[Fo.len];omega)<|y2<|y<|λ_=>Gn rfl rfl rfl (λw hK=>GI rfl rfl rfl Ku)<|Ag rfl ?_ Aj);refine Aa 2 [] (λb3=>λ_=>Au [1,2] rfl<|Ag rfl ?_ Aj);refine Aa 2 [0] (y<|λ_=>Au [1,2] rfl<|A2 1 [] (λ_=>Bk<|Aa 10 [0] (y<|λ_=>AJ 59 rfl rfl (λh7=>?_) (λh7=>?_))));refine Aa 2 [] (λ_=>C3 [0,1,2] Am (rd [0,1,2] (.br 3 (.br 4 .fin .fin) .fin)) rfl kR<|A2 3 [2] (y<|λ_=>Ag rfl ?_ Aj));refine CN rfl rfl (eC HR rfl rfl) (λw f hM=>CO _ _ _ _)<|Aa 1 [] (λ_=>Au [0,1,2] rfl<|Ag rfl ?_ Aj);refine AX rfl rfl (eC AB rfl rfl) (λw2 f2 he hE=>⟨rfl,_,f2,rfl,(by unfold DT;simp[SP.need,Az,he,h1,h2,h3,h4,h5,h6,h7]),hE⟩) λhn2=>Aa 1 [] (λ_=>Au [0,1,2] rfl<|Bk<|Aa 2 [] (λ_=>C3 [0,2] Am (rd [0,1,2,3,4] (.br 5 (.br 6 (.br 7 .fin .fin) .fin) .fin)) rfl kR<|A2 5 [1,0] (y<|y<|λ_=>Ag rfl ?_ Aj)));refine J0 rfl rfl (eC CV rfl rfl) (λw f hM=>BM 133 Pp (DT (n+1)) (Gp n) (λw f hv hJ t k a c hd hT=>ih n rfl w f hv hJ t k a c hd hT) w f hM.vl hM.f5 r _ _ (N1 n r hko.2.2.2 hdp.2) oM hM.f3) (λ_=>⟨AD.mono,tQ⟩) (λe w2 f2 he hE=>⟨rfl,e,f2,rfl,(by unfold DT;simp[SP.need,Az,he,h1,h2,h3,h4,h5,h6,h7,hn2]),hE⟩) ?_;rintro⟨⟨nds1,xnds1⟩,ands1,cnds1⟩ hnds1;dsimp only at hnds1 ⊢;refine Aa 1 [] (λ_=>Au [0,2] rfl<|Ag rfl ?_ Aj);refine CN rfl rfl (eC Bf rfl rfl) (λw f hM=>A8 _ t _ _ _ _ _ _)<|Aa 1 [] (λ_=>Au [0,2] rfl<|Ag rfl ?_ Aj);exact Aa 2 [1] (y<|λ_=>Au [0,2] rfl<|Bk<|Aa 3 [] (λ_=>AL (λw f hM=>A9 rfl (Ac rfl B4 hM.k1 rfl)) (λw f hM=>⟨(⟨26,t.ln,t.co,h.tx,0,nds1⟩,ands1,cnds1),f,rfl,(by unfold DT;simp[SP.need,Az,h1,h2,h3,h4,h5,h6,h7,hn2,hnds1]),hM.exm,⟨hM.f0,tQ⟩⟩)));refine Aa 4 [] (λ_=>C3 [0,1,2] Am (.rd 0 (.rd 1 (.br 2 (rd [3,4,5] (.br 6 (.rd 7 (.br 8 .fin .fin)) .fin)) .fin))) rfl kR<|A2 2 [2,0] (y<|y<|λ_=>Ag rfl ?_ Aj));refine CN rfl rfl (eC JT rfl rfl) (λw f hM=>Dm _ h _ _)<|Aa 1 [] (λ_=>Au [0,1,2] rfl<|A2 1 [] (λ_=>Jm 75 rfl (λh8=>?_) (λh8=>?_)));refine A2 2 [] (λ_=>Ag rfl ?_ Aj);refine CN rfl rfl (eC HR rfl rfl) (λw f hM=>CO _ _ _ _)<|Aa 1 [] (λ_=>Au [0,1,2] rfl<|A2 1 [] (λ_=>Ag rfl ?_ Aj));refine AX rfl rfl (eC AB rfl rfl) (λw2 f2 he hE=>⟨rfl,_,f2,rfl,(by unfold DT;simp[SP.need,Az,he,h1,h2,h3,h4,h5,h6,h7,h8]),hE⟩) λhn3=>Aa 1 [] (λ_=>Au [0,1,2] rfl<|Bk<|Aa 2 [] (λ_=>C3 [0,2] Am (.rd 0 (.rd 1 (.br 2 (.br 3 (.br 4 .fin .fin) .fin) .fin))) rfl kR<|A2 2 [1] (y<|λ_=>Ag rfl ?_ Aj)));refine J0 rfl rfl (eC CV rfl rfl) (λw f hM=>BM 133 Pp (DT (n+1)) (Gp n) (λw f hv hJ t k a c hd hT=>ih n rfl w f hv hJ t k a c hd hT) w f hM.vl hM.f5 r _ _ (N1 n r hko.2.2.2 hdp.2) oM hM.f3) (λ_=>⟨AD.mono,tQ⟩) (λe w2 f2 he hE=>⟨rfl,e,f2,rfl,(by unfold DT;simp[SP.need,Az,he,h1,h2,h3,h4,h5,h6,h7,h8,hn3]),hE⟩) ?_;rintro⟨⟨nds2,xnds2⟩,ands2,cnds2⟩ hnds2;dsimp only at hnds2 ⊢
 refine Aa 1 [] (λ_=>Au [0,2] rfl<|Ag rfl ?_ Aj);refine CN rfl rfl (eC Bf rfl rfl) (λw f hM=>A8 _ t _ _ _ _ _ _)<|Aa 1 [] (λ_=>Au [0,2] rfl<|Ag rfl ?_ Aj);exact Aa 2 [1] (y<|λ_=>Au [0,2] rfl<|Bk<|Aa 2 [] (λ_=>AL (λw f hM=>A9 rfl (Ac rfl B4 hM.k1 rfl)) (λw f hM=>⟨(⟨27,t.ln,t.co,[],0,nds2⟩,ands2,cnds2),f,rfl,(by unfold DT;simp[SP.need,Az,h1,h2,h3,h4,h5,h6,h7,h8,hn3,hnds2]),hM.exm,⟨hM.f0,tQ⟩⟩)));refine A2 2 [] (λ_=>Ag rfl ?_ Aj);refine Aa 2 [] (λ_=>Au [0,1,2] rfl<|A2 1 [] (λ_=>Ag rfl ?_ Aj));refine AX rfl rfl (eC AB rfl rfl) (λw2 f2 he hE=>⟨rfl,_,f2,rfl,(by unfold DT;simp[SP.need,Az,he,h1,h2,h3,h4,h5,h6,h7,h8]),hE⟩) λhn4=>?_
 cases hn4
theorem Ox:∀n,∀(w:World)(f:Fq)(_:Vl w f)(_:Db w f)(t:AK)(k:Fo)(a:Option Addr)(c:Nat),Gp n t k→DH w f k a c→BB prog 133 #[fV t a k.len c] w (Hy (DT (n+1) t k) w f) (HT 61 (DT (n+1) t k) w f)
 |0=>Sk 0 (λ_ hq=>by cases hq)
 |n+1=>Sk (n+1) (λn' h=>by cases h;exact Ox n)
theorem N6(w:World)(f:Fq)(hv:Vl w f)(t:AK)(k:Fo)(ka:Option Addr)(kc:Nat)(hL:DH w f k ka kc) :
  Bo prog 50 #[fV t ka k.len kc] w (Bw (α:=Unit) (λ_=>.bool (SU t k)) (λ_=>True) (λ_=>[]) w f):=by
 refine Ch (X:=X0 w f) (H:=[]) (R:=[]) (B:=[]) (Fs:=[λw f=>DH w f k ka kc]) (f:=f) func50 rfl rfl rfl (BR hv ⟨hL,tQ⟩ ⟨DH.mono,tQ⟩)<|Aa 7 [] (λb1=>λ_=>?_)
 cases k with
 |nil =>
  refine Aa 2 [0] (y<|λ_=>CN rfl rfl (eC GM rfl rfl) (λw f hM=>Co _ t _)<|Aa 1 [] (λ_=>AJ 5 rfl rfl (λh1=>?_) (λh1=>?_)));refine Aa 6 [0] (y<|λ_=>AJ 11 rfl rfl (λh2=>?_) (λh2=>?_));simp[Fo.len] at h2;exact Aa 10 [] (λ_=>AL (C4 rfl rfl) (λw f hM=>⟨(),f,(by simp[SU,h1]),tQ,hM.exm,tQ⟩));exact Aa 16 [] (λ_=>AL (C4 rfl rfl) (λw f hM=>⟨(),f,(by simp[SU,h1]),tQ,hM.exm,tQ⟩))
 |cons h hk r =>
  refine P4 0 rfl<|MM 0 rfl ?_;rintro⟨eb,eo,hka,hkc⟩ rfl;refine Aa 2 [0] (y<|λ_=>CN rfl rfl (eC GM rfl rfl) (λw f hM=>Co _ t _)<|Aa 1 [] (λ_=>AJ 5 rfl rfl (λh3=>?_) (λh3=>?_)));refine Aa 6 [0] (y<|λ_=>AJ 11 rfl rfl (λh4=>?_) (λh4=>?_));exact Aa 4 [0,100,0] (y<|aI (by simp only[Fo.len];omega)<|y2<|λ_=>CN rfl rfl (eC JT rfl rfl) (λw f hM=>Dm _ h _ _)<|Aa 5 [] (λ_=>AL (C4 rfl rfl) (λw f hM=>⟨(),f,(by simp[SU,h3]),tQ,hM.exm,tQ⟩)));have h9:=of_decide_eq_false h4;simp only[Fo.len] at h9;omega;exact Aa 16 [] (λ_=>AL (C4 rfl rfl) (λw f hM=>⟨(),f,(by simp[SU,h3]),tQ,hM.exm,tQ⟩))
set_option maxHeartbeats 1000000 in
theorem W8(n:Nat)(ihx:∀ (w:World) (f:Fq) (_:Vl w f) (_:Db w f) (t:AK) (k:Fo) (a:Option Addr) (c:Nat),Gp n t k→DH w f k a c→BB prog 49 #[fV t a k.len c] w (Hy (Cb (n+1) t k) w f) (HT 61 (Cb (n+1) t k) w f))(iha:∀ (w:World) (f:Fq) (_:Vl w f) (_:Db w f) (t:AK) (k:Fo) (a:Option Addr) (c:Nat),Gp n t k→DH w f k a c→BB prog 111 #[fV t a k.len c] w (Hy (GX (n+1) (Cb (n+1)) t k) w f) (HT 61 (GX (n+1) (Cb (n+1)) t k) w f))(w:World)(f:Fq)(hv:Vl w f)(hJ:Db w f)(t:AK)(k:Fo)(ka:Option Addr)(kc:Nat)(wd:lU)(l:Fo)(la:Option Addr)(lc:Nat)(hall:l.all (Gp n))(hlen:l.len≤100000)(hL:DH w f l la lc) :
  BB prog 80 #[fV t ka k.len kc,S wd,.slice la l.len lc] w (Hy (Bh (n+1) (Cb (n+1)) t wd l) w f) (HT 61 (Bh (n+1) (Cb (n+1)) t wd l) w f):=by
 refine Mr (X:=X0 w f) (H:=[]) (R:=[]) (B:=[]) (Fs:=[λw f=>DH w f l la lc,λw f=>Db w f]) (f:=f) func80 rfl rfl rfl (BR hv ⟨hL,hJ,tQ⟩ ⟨DH.mono,Db.mono,tQ⟩)<|Aa 26 [] (λb1=>λb2=>λ_=>AJ 13 rfl rfl (λh1=>?_) (λh1=>?_));obtain rfl:=beq_iff_eq.1 h1;refine Aa 2 [] (λ_=>?_);rcases Fo.two l with ⟨p,pk,b,bk,rfl⟩|hne
 refine P4 0 rfl<|MM 0 rfl ?_;rintro⟨eb0,eo0,k0a,k0c⟩ rfl;refine WT 1 rfl ?_;rintro⟨k1a,k1c⟩;refine C3 [0,1] Am (rd [0,1,2,3,4,5,6] (.br 7 (rd [8,9,10,11,12,13,14] (.br 15 (rd [16,17,18,19,20,21] (.br 22 (.rd 23 (.br 24 .fin .fin)) .fin)) .fin)) .fin)) rfl kR<|A2 4 [1] (y<|λ_=>Jm 18 rfl (λh2=>?_) (λh2=>?_));refine A2 3 [101,0] (aI (by simp only[Fo.len];omega)<|y2<|λ_=>Ag rfl ?_ Aj);refine CN rfl rfl (eC GM rfl rfl) (λw f hM=>Co _ p _)<|Aa 1 [] (λ_=>Au [0,1] rfl<|A2 2 [] (λ_=>Jm 24 rfl (λh3=>?_) (λh3=>?_)));refine A2 5 [101,5] (aI (by simp only[Fo.len];omega)<|y2<|λ_=>Ag rfl ?_ Aj);refine CN rfl rfl (eC HR rfl rfl) (λw f hM=>CO _ _ _ _)<|Aa 1 [] (λ_=>Au [0,1] rfl<|A2 2 [] (λ_=>Jm 32 rfl (λh4=>?_) (λh4=>?_)));refine A2 4 [101,5] (aI (by simp only[Fo.len];omega)<|y2<|λ_=>Ag rfl ?_ Aj);refine Br rfl rfl (eC cI rfl rfl) (λw f hM=>Rj w f hM.vl hM.f6 pk _ _ (Fo.ok.all hall.1.2.1) hall.1.2.2.1 hM.f2) (λ_=>trivial) ?_;rintro⟨⟩ -;refine Aa 1 [] (λ_=>Au [0,1] rfl<|A2 1 [] (λ_=>Ag rfl ?_ Aj));refine AX rfl rfl (eC AB rfl rfl) (λw2 f2 he hE=>⟨rfl,_,f2,rfl,(by simp[Bh,SP.need,Az,he,h2,h3,h4]),hE⟩) λhn1=>Aa 1 [] (λ_=>Au [0,1] rfl<|Bk<|Aa 2 [] (λ_=>C3 [1] Am (rd [0,1,2,3,4,6,7,8] (.br 5 (.br 9 (.br 10 (.br 11 (.br 12 (.br 13 .fin .fin) .fin) .fin) .fin) .fin) .fin)) rfl kR<|A2 8 [0,101,5,100,0] (y<|aI (by simp only[Fo.len];omega)<|y2<|aI (by simp only[Fo.len];omega)<|y2<|λ_=>Ag rfl ?_ Aj)));refine WC rfl rfl (eC CV rfl rfl) (λw f hM=>GH 109 UJ I6 (λ_ _=>True) (λw f hv hJ t k a c hd hT=>(M8 w f hv hJ t k a c).retP) w f hM.vl hM.f6 pk _ _ (Fo.all_true _) hall.1.2.2.1 hM.f2) (λ_=>⟨BU.mono,tQ⟩) (λe w2 f2 he hE=>⟨rfl,e,f2,rfl,(by simp[Bh,SP.need,Az,he,h2,h3,h4,hn1]),hE⟩) ?_;rintro⟨nds1,xnds1⟩ ands1 cnds1 hnds1;dsimp only at hnds1 ⊢;have hnl:=DI hnds1;have hpl:=hall.1.2.2.1;refine Aa 1 [] (λ_=>Au [1] rfl<|Ag rfl ?_ Aj);refine J0 rfl rfl (eC Dh rfl rfl) (λw f hM=>ihx w f hM.vl hM.f7 b bk _ _ hall.2.1 hM.f1) (λ_=>⟨AD.mono,tQ⟩) (λe w2 f2 he hE=>⟨rfl,e,f2,rfl,(by simp[Bh,SP.need,Az,he,h2,h3,h4,hn1,hnds1]),hE⟩) ?_;rintro⟨nd1,and1,cnd1⟩ hnd1;dsimp only at hnd1 ⊢;refine Aa 1 [] (λ_=>Au [1] rfl<|Ag rfl ?_ Aj);refine Aa 2 [] (λb3=>λ_=>Au [2] rfl<|Ag rfl ?_ Aj);refine Da 0 0 rfl rfl L0 rfl rfl rfl rfl rfl rfl rfl rfl (λ_ _=>rfl) oM oM λands2 cnds2=>Dl (λw f=>BU w f (nds1.app nd1.one) (xnds1++Kc nd1.op nd1.ln nd1.co nd1.tx nd1.nm and1 nd1.kids.len cnd1)) (λw f hM=>BU.app (BU.one hM.f0) hM.f1) BU.mono<|NT (λw f=>AD w f (nds1.app nd1.one) ands2 cnds2) AD.mono (λw f hM=>JO hM hM.f0)<|Aa 1 [] (λ_=>Au [2] rfl<|Ag rfl ?_ Aj);refine CN rfl rfl (eC Bf rfl rfl) (λw f hM=>A8 _ t _ _ _ _ _ _)<|Aa 1 [] (λ_=>Au [2] rfl<|Ag rfl ?_ Aj)
 exact Aa 2 [1] (y<|λ_=>Au [2] rfl<|Bk<|Aa 4 [] (λ_=>AL (λw f hM=>A9 rfl (Ac rfl B4 hM.k1 rfl)) (λw f hM=>⟨(⟨7,t.ln,t.co,[],0,(nds1.app nd1.one)⟩,ands2,cnds2),f,(by simp[nV,Nd.app_len,N.one,N.cons,Nd.len,Nat.add_comm]),(by simp[Bh,SP.need,Az,h2,h3,h4,hn1,hnds1,hnd1]),hM.exm,⟨hM.f0,tQ⟩⟩)));refine A2 4 [] (λ_=>Ag rfl ?_ Aj);refine Aa 2 [] (λ_=>Au [0,1] rfl<|A2 1 [] (λ_=>Ag rfl ?_ Aj));refine AX rfl rfl (eC AB rfl rfl) (λw2 f2 he hE=>⟨rfl,_,f2,rfl,(by simp[Bh,SP.need,Az,he,h2,h3,h4]),hE⟩) λhn2=>?_
 cases hn2
 refine A2 5 [] (λ_=>Ag rfl ?_ Aj);refine Aa 2 [] (λ_=>Au [0,1] rfl<|A2 6 [] (λ_=>Ag rfl ?_ Aj));refine Aa 2 [] (λ_=>Au [0,1] rfl<|A2 1 [] (λ_=>Ag rfl ?_ Aj));refine AX rfl rfl (eC AB rfl rfl) (λw2 f2 he hE=>⟨rfl,_,f2,rfl,(by simp[Bh,SP.need,Az,he,h2,h3]),hE⟩) λhn3=>?_
 cases hn3
 simp[Fo.len] at h2;refine C3 [0,1] Am (rd [0,1,2,3,4,5,6] (.br 7 (rd [8,9,10,11,12,13,14] (.br 15 (rd [16,17,18,19,20,21] (.br 22 (.rd 23 (.br 24 .fin .fin)) .fin)) .fin)) .fin)) rfl kR<|A2 4 [1] (y<|λ_=>Jm 18 rfl (λh5=>?_) (λh5=>?_));exact absurd (by have h9:=beq_iff_eq.1 h5;omega) hne;refine A2 3 [] (λ_=>Ag rfl ?_ Aj);refine Aa 2 [] (λ_=>Au [0,1] rfl<|A2 7 [] (λ_=>Ag rfl ?_ Aj));refine Aa 2 [] (λ_=>Au [0,1] rfl<|A2 6 [] (λ_=>Ag rfl ?_ Aj));refine Aa 2 [] (λ_=>Au [0,1] rfl<|A2 1 [] (λ_=>Ag rfl ?_ Aj));refine AX rfl rfl (eC AB rfl rfl) (λw2 f2 he hE=>⟨rfl,_,f2,rfl,(by rw[rA hne]),hE⟩) λhn4=>?_
 cases hn4
 refine Aa 7 [] (λ_=>AJ 53 rfl rfl (λh6=>?_) (λh6=>?_));obtain rfl:=beq_iff_eq.1 h6;refine Aa 2 [] (λ_=>?_);rcases Fo.three l with ⟨p,pk,b,bk,c,ck,rfl⟩|hne
 refine P4 0 rfl<|MM 0 rfl ?_;rintro⟨eb0,eo0,k0a,k0c⟩ rfl;refine WT 1 rfl ?_;rintro⟨k1a,k1c⟩;refine WT 1 rfl ?_;rintro⟨k2a,k2c⟩;refine C3 [0,1] Am (rd [0,1,2,3,4,5,6] (.br 7 (.rd 8 (.br 9 .fin .fin)) .fin)) rfl kR<|A2 4 [1] (y<|λ_=>Jm 58 rfl (λh7=>?_) (λh7=>?_));refine A2 3 [102,0] (aI (by simp only[Fo.len];omega)<|y2<|λ_=>Ag rfl ?_ Aj);refine CN rfl rfl (eC OZ rfl rfl) (λw f hM=>Jd _ (Db.gl hM.f8) p _ hall.1.1.1 hall.1.1.2)<|Aa 1 [] (λ_=>Au [0,1] rfl<|A2 1 [] (λ_=>Ag rfl ?_ Aj));refine AX rfl rfl (eC AB rfl rfl) (λw2 f2 he hE=>⟨rfl,_,f2,rfl,(by simp[Bh,SP.need,Az,he,h1,h7]),hE⟩) λhn5=>Aa 1 [] (λ_=>Au [0,1] rfl<|Bk<|Aa 2 [] (λ_=>C3 [1] Am (rd [0,1,2,3,4,5,6,7,8,10,11,12] (.br 9 (.br 13 (.br 14 (.br 15 (.br 16 .fin .fin) .fin) .fin) .fin) .fin)) rfl kR<|A2 12 [0,102,4,101,0,100,0] (y<|aI (by simp only[Fo.len];omega)<|y2<|aI (by simp only[Fo.len];omega)<|y2<|aI (by simp only[Fo.len];omega)<|y2<|λ_=>Ag rfl ?_ Aj)));refine J0 rfl rfl (eC Dh rfl rfl) (λw f hM=>ihx w f hM.vl hM.f8 b bk _ _ hall.2.1 hM.f2) (λ_=>⟨AD.mono,tQ⟩) (λe w2 f2 he hE=>⟨rfl,e,f2,rfl,(by simp[Bh,SP.need,Az,he,h1,h7,hn5]),hE⟩) ?_;rintro⟨nd2,and2,cnd2⟩ hnd2;dsimp only at hnd2 ⊢;refine Aa 1 [] (λ_=>Au [1] rfl<|Ag rfl ?_ Aj);refine J0 rfl rfl (eC Dh rfl rfl) (λw f hM=>ihx w f hM.vl hM.f9 c ck _ _ hall.2.2.1 hM.f1) (λ_=>⟨AD.mono,tQ⟩) (λe w2 f2 he hE=>⟨rfl,e,f2,rfl,(by simp[Bh,SP.need,Az,he,h1,h7,hn5,hnd2]),hE⟩) ?_;rintro⟨nd3,and3,cnd3⟩ hnd3;dsimp only at hnd3 ⊢;refine Aa 1 [] (λ_=>Au [1] rfl<|Ag rfl ?_ Aj);refine Aa 2 [] (λb4=>λ_=>Au [2] rfl<|Ag rfl ?_ Aj);refine CG 0 rfl rfl<|Dl (λw f=>AD w f (nd2.cons (nd3.one)) (some ⟨b4,0,none⟩) 2) (λw f hM=>BU.toF (BU.cons' hM.f1 (BU.cons' hM.f0 (show BU _ _ .nil [] from rfl))) hM.b0 (Nat.le_refl _)) AD.mono<|CN rfl rfl (eC Bf rfl rfl) (λw f hM=>A8 _ t _ _ _ _ _ _)<|Aa 1 [] (λ_=>AW [1] EE rfl (λ_ h=>.tail _ h)<|Ag rfl ?_ Aj);exact Aa 2 [0] (y<|λ_=>AW [1] EE rfl (λ_ h=>.tail _ h)<|Bk<|Aa 4 [] (λ_=>AL (λw f hM=>A9 rfl (Ac rfl B4 hM.k0 rfl)) (λw f hM=>⟨(⟨9,t.ln,t.co,p.tx,0,(nd2.cons (nd3.one))⟩,(some ⟨b4,0,none⟩),2),f,rfl,(by simp[Bh,SP.need,Az,h1,h7,hn5,hnd2,hnd3]),hM.exm,⟨hM.f0,tQ⟩⟩)));simp[Fo.len] at h7;refine C3 [0,1] Am (rd [0,1,2,3,4,5,6] (.br 7 (.rd 8 (.br 9 .fin .fin)) .fin)) rfl kR<|A2 4 [1] (y<|λ_=>Jm 58 rfl (λh8=>?_) (λh8=>?_));exact absurd (by have h9:=beq_iff_eq.1 h8;omega) hne;refine A2 3 [] (λ_=>Ag rfl ?_ Aj);refine Aa 2 [] (λ_=>Au [0,1] rfl<|A2 1 [] (λ_=>Ag rfl ?_ Aj));refine AX rfl rfl (eC AB rfl rfl) (λw2 f2 he hE=>⟨rfl,_,f2,rfl,(by rw[iI hne]),hE⟩) λhn6=>?_
 cases hn6
 refine Aa 7 [] (λ_=>AJ 81 rfl rfl (λh9=>?_) (λh9=>?_));obtain rfl:=beq_iff_eq.1 h9;refine Aa 2 [] (λ_=>?_);rcases Fo.three l with ⟨p,pk,b,bk,c,ck,rfl⟩|hne
 refine P4 0 rfl<|MM 0 rfl ?_;rintro⟨eb0,eo0,k0a,k0c⟩ rfl;refine WT 1 rfl ?_;rintro⟨k1a,k1c⟩;refine WT 1 rfl ?_;rintro⟨k2a,k2c⟩;refine C3 [0,1] Am (rd [0,1,2,3,4,5,6] (.br 7 (rd [8,9,10,11,12] (.br 13 (.rd 14 (.br 15 .fin .fin)) .fin)) .fin)) rfl kR<|A2 4 [1] (y<|λ_=>Jm 86 rfl (λh10=>?_) (λh10=>?_));refine A2 3 [102,0] (aI (by simp only[Fo.len];omega)<|y2<|λ_=>Ag rfl ?_ Aj);refine CN rfl rfl (eC No rfl rfl) (λw f hM=>En _ (Db.gl hM.f8) p _ hall.1.1.1 hall.1.1.2)<|Aa 1 [] (λ_=>Au [0,1] rfl<|A2 2 [] (λ_=>Jm 92 rfl (λh11=>?_) (λh11=>?_)));refine A2 3 [101,0] (aI (by simp only[Fo.len];omega)<|y2<|λ_=>Ag rfl ?_ Aj);refine Br rfl rfl (eC ZE rfl rfl) (λw f hM=>N6 w f hM.vl b bk _ _ hM.f2) (λ_=>trivial) ?_;rintro⟨⟩ -;refine Aa 1 [] (λ_=>Au [0,1] rfl<|A2 1 [] (λ_=>Ag rfl ?_ Aj));refine AX rfl rfl (eC AB rfl rfl) (λw2 f2 he hE=>⟨rfl,_,f2,rfl,(by simp[Bh,SP.need,Az,he,h1,h6,h10,h11]),hE⟩) λhn7=>Aa 1 [] (λ_=>Au [0,1] rfl<|Bk<|Aa 2 [] (λ_=>C3 [1] Am (rd [0,1,2,3,4,5,6,7,8,10,11,12] (.br 9 (.br 13 (.br 14 (.br 15 (.br 16 .fin .fin) .fin) .fin) .fin) .fin)) rfl kR<|A2 12 [0,102,4,101,0,100,0] (y<|aI (by simp only[Fo.len];omega)<|y2<|aI (by simp only[Fo.len];omega)<|y2<|aI (by simp only[Fo.len];omega)<|y2<|λ_=>Ag rfl ?_ Aj)));refine J0 rfl rfl (eC Dh rfl rfl) (λw f hM=>ihx w f hM.vl hM.f8 b bk _ _ hall.2.1 hM.f2) (λ_=>⟨AD.mono,tQ⟩) (λe w2 f2 he hE=>⟨rfl,e,f2,rfl,(by simp[Bh,SP.need,Az,he,h1,h6,h10,h11,hn7]),hE⟩) ?_;rintro⟨nd4,and4,cnd4⟩ hnd4;dsimp only at hnd4 ⊢;refine Aa 1 [] (λ_=>Au [1] rfl<|Ag rfl ?_ Aj);refine J0 rfl rfl (eC Dh rfl rfl) (λw f hM=>ihx w f hM.vl hM.f9 c ck _ _ hall.2.2.1 hM.f1) (λ_=>⟨AD.mono,tQ⟩) (λe w2 f2 he hE=>⟨rfl,e,f2,rfl,(by simp[Bh,SP.need,Az,he,h1,h6,h10,h11,hn7,hnd4]),hE⟩) ?_;rintro⟨nd5,and5,cnd5⟩ hnd5;dsimp only at hnd5 ⊢;refine Aa 1 [] (λ_=>Au [1] rfl<|Ag rfl ?_ Aj);refine Aa 2 [] (λb5=>λ_=>Au [2] rfl<|Ag rfl ?_ Aj);refine CG 0 rfl rfl<|Dl (λw f=>AD w f (nd4.cons (nd5.one)) (some ⟨b5,0,none⟩) 2) (λw f hM=>BU.toF (BU.cons' hM.f1 (BU.cons' hM.f0 (show BU _ _ .nil [] from rfl))) hM.b0 (Nat.le_refl _)) AD.mono<|CN rfl rfl (eC Bf rfl rfl) (λw f hM=>A8 _ t _ _ _ _ _ _)<|Aa 1 [] (λ_=>AW [1] EE rfl (λ_ h=>.tail _ h)<|Ag rfl ?_ Aj);exact Aa 2 [0] (y<|λ_=>AW [1] EE rfl (λ_ h=>.tail _ h)<|Bk<|Aa 4 [] (λ_=>AL (λw f hM=>A9 rfl (Ac rfl B4 hM.k0 rfl)) (λw f hM=>⟨(⟨10,t.ln,t.co,p.tx,0,(nd4.cons (nd5.one))⟩,(some ⟨b5,0,none⟩),2),f,rfl,(by simp[Bh,SP.need,Az,h1,h6,h10,h11,hn7,hnd4,hnd5]),hM.exm,⟨hM.f0,tQ⟩⟩)));refine A2 3 [] (λ_=>Ag rfl ?_ Aj);refine Aa 2 [] (λ_=>Au [0,1] rfl<|A2 1 [] (λ_=>Ag rfl ?_ Aj));refine AX rfl rfl (eC AB rfl rfl) (λw2 f2 he hE=>⟨rfl,_,f2,rfl,(by simp[Bh,SP.need,Az,he,h1,h6,h10,h11]),hE⟩) λhn8=>?_
 cases hn8
 simp[Fo.len] at h10;refine C3 [0,1] Am (rd [0,1,2,3,4,5,6] (.br 7 (rd [8,9,10,11,12] (.br 13 (.rd 14 (.br 15 .fin .fin)) .fin)) .fin)) rfl kR<|A2 4 [1] (y<|λ_=>Jm 86 rfl (λh12=>?_) (λh12=>?_));exact absurd (by have h9:=beq_iff_eq.1 h12;omega) hne;refine A2 3 [] (λ_=>Ag rfl ?_ Aj);refine Aa 2 [] (λ_=>Au [0,1] rfl<|A2 5 [] (λ_=>Ag rfl ?_ Aj));refine Aa 2 [] (λ_=>Au [0,1] rfl<|A2 1 [] (λ_=>Ag rfl ?_ Aj));refine AX rfl rfl (eC AB rfl rfl) (λw2 f2 he hE=>⟨rfl,_,f2,rfl,(by rw[gO hne]),hE⟩) λhn9=>?_
 cases hn9
 refine Aa 7 [] (λ_=>AJ 115 rfl rfl (λh13=>?_) (λh13=>?_));obtain rfl:=beq_iff_eq.1 h13;refine Aa 6 [1] (y<|λ_=>AX rfl rfl (eC AB rfl rfl) (λw2 f2 he hE=>⟨rfl,_,f2,rfl,(by simp[Bh,SP.need,Az,he,h1,h6,h9]),hE⟩) λhn10=>Aa 3 [] (λ_=>C3 [1] Am (.rd 0 (.rd 1 (.br 2 (.br 3 (.br 4 .fin .fin) .fin) .fin))) rfl kR<|A2 2 [0] (y<|λ_=>Ag rfl ?_ Aj)));refine J0 rfl rfl (eC CV rfl rfl) (λw f hM=>BM 49 Dh (Cb (n+1)) (Gp n) (λw f hv hJ t k a c hd hT=>ihx w f hv hJ t k a c hd hT) w f hM.vl hM.f1 l _ _ hall hlen hM.f0) (λ_=>⟨AD.mono,tQ⟩) (λe w2 f2 he hE=>⟨rfl,e,f2,rfl,(by simp[Bh,SP.need,Az,he,h1,h6,h9,hn10]),hE⟩) ?_;rintro⟨⟨nds5,xnds5⟩,ands5,cnds5⟩ hnds5;dsimp only at hnds5 ⊢;refine Aa 1 [] (λ_=>Au [1] rfl<|Ag rfl ?_ Aj);refine CN rfl rfl (eC Bf rfl rfl) (λw f hM=>A8 _ t _ _ _ _ _ _)<|Aa 1 [] (λ_=>Au [1] rfl<|Ag rfl ?_ Aj);exact Aa 2 [0] (y<|λ_=>Au [1] rfl<|Bk<|Aa 4 [] (λ_=>AL (λw f hM=>A9 rfl (Ac rfl B4 hM.k0 rfl)) (λw f hM=>⟨(⟨11,t.ln,t.co,[],0,nds5⟩,ands5,cnds5),f,rfl,(by simp[Bh,SP.need,Az,h1,h6,h9,hn10,hnds5]),hM.exm,⟨hM.f0,tQ⟩⟩)));refine Aa 7 [] (λ_=>AJ 125 rfl rfl (λh14=>?_) (λh14=>?_));obtain rfl:=beq_iff_eq.1 h14;refine Aa 6 [1] (y<|λ_=>AX rfl rfl (eC AB rfl rfl) (λw2 f2 he hE=>⟨rfl,_,f2,rfl,(by simp[Bh,SP.need,Az,he,h1,h6,h9,h13]),hE⟩) λhn11=>Aa 3 [] (λ_=>C3 [1] Am (.rd 0 (.rd 1 (.br 2 (.br 3 (.br 4 .fin .fin) .fin) .fin))) rfl kR<|A2 2 [0] (y<|λ_=>Ag rfl ?_ Aj)));refine J0 rfl rfl (eC CV rfl rfl) (λw f hM=>BM 49 Dh (Cb (n+1)) (Gp n) (λw f hv hJ t k a c hd hT=>ihx w f hv hJ t k a c hd hT) w f hM.vl hM.f1 l _ _ hall hlen hM.f0) (λ_=>⟨AD.mono,tQ⟩) (λe w2 f2 he hE=>⟨rfl,e,f2,rfl,(by simp[Bh,SP.need,Az,he,h1,h6,h9,h13,hn11]),hE⟩) ?_;rintro⟨⟨nds6,xnds6⟩,ands6,cnds6⟩ hnds6;dsimp only at hnds6 ⊢;refine Aa 1 [] (λ_=>Au [1] rfl<|Ag rfl ?_ Aj);refine CN rfl rfl (eC Bf rfl rfl) (λw f hM=>A8 _ t _ _ _ _ _ _)<|Aa 1 [] (λ_=>Au [1] rfl<|Ag rfl ?_ Aj);exact Aa 2 [0] (y<|λ_=>Au [1] rfl<|Bk<|Aa 4 [] (λ_=>AL (λw f hM=>A9 rfl (Ac rfl B4 hM.k0 rfl)) (λw f hM=>⟨(⟨12,t.ln,t.co,[],0,nds6⟩,ands6,cnds6),f,rfl,(by simp[Bh,SP.need,Az,h1,h6,h9,h13,hn11,hnds6]),hM.exm,⟨hM.f0,tQ⟩⟩)));refine Aa 7 [] (λ_=>AJ 135 rfl rfl (λh15=>?_) (λh15=>?_));obtain rfl:=beq_iff_eq.1 h15;refine Aa 2 [] (λ_=>C3 [0,1] Am (.rd 0 (.rd 1 (.br 2 (.br 3 .fin .fin) .fin))) rfl kR<|A2 2 [1] (y<|λ_=>Ag rfl ?_ Aj));refine CN rfl rfl (eC HR rfl rfl) (λw f hM=>CO _ _ _ _)<|Aa 1 [] (λ_=>Au [0,1] rfl<|Ag rfl ?_ Aj);refine AX rfl rfl (eC AB rfl rfl) (λw2 f2 he hE=>⟨rfl,_,f2,rfl,(by simp[Bh,SP.need,Az,he,h1,h6,h9,h13,h14]),hE⟩) λhn12=>Aa 1 [] (λ_=>Au [0,1] rfl<|Bk<|Aa 2 [] (λ_=>C3 [1] Am (.rd 0 (.rd 1 (.br 2 (.br 3 (.br 4 .fin .fin) .fin) .fin))) rfl kR<|A2 2 [0] (y<|λ_=>Ag rfl ?_ Aj)))
 refine J0 rfl rfl (eC CV rfl rfl) (λw f hM=>BM 49 Dh (Cb (n+1)) (Gp n) (λw f hv hJ t k a c hd hT=>ihx w f hv hJ t k a c hd hT) w f hM.vl hM.f1 l _ _ hall hlen hM.f0) (λ_=>⟨AD.mono,tQ⟩) (λe w2 f2 he hE=>⟨rfl,e,f2,rfl,(by simp[Bh,SP.need,Az,he,h1,h6,h9,h13,h14,hn12]),hE⟩) ?_;rintro⟨⟨nds7,xnds7⟩,ands7,cnds7⟩ hnds7;dsimp only at hnds7 ⊢;refine Aa 1 [] (λ_=>Au [1] rfl<|Ag rfl ?_ Aj);refine CN rfl rfl (eC Bf rfl rfl) (λw f hM=>A8 _ t _ _ _ _ _ _)<|Aa 1 [] (λ_=>Au [1] rfl<|Ag rfl ?_ Aj);exact Aa 2 [0] (y<|λ_=>Au [1] rfl<|Bk<|Aa 4 [] (λ_=>AL (λw f hM=>A9 rfl (Ac rfl B4 hM.k0 rfl)) (λw f hM=>⟨(⟨13,t.ln,t.co,[],0,nds7⟩,ands7,cnds7),f,rfl,(by simp[Bh,SP.need,Az,h1,h6,h9,h13,h14,hn12,hnds7]),hM.exm,⟨hM.f0,tQ⟩⟩)));refine Aa 8 [] (λ_=>AJ 145 rfl rfl (λD4=>?_) (λD4=>?_));obtain rfl:=beq_iff_eq.1 D4;refine Aa 5 [] (λ_=>Aa 4 [1] (y<|λ_=>AX rfl rfl (eC AB rfl rfl) (λw2 f2 he hE=>⟨rfl,_,f2,rfl,(by simp[Bh,SP.need,Az,he,h1,h6,h9,h13,h14,h15]),hE⟩) λhn13=>Aa 18 [] (λ_=>?_)));obtain⟨p,pk,r,rfl⟩:=Fo.cases1 l (by have:=of_decide_eq_true hn13;omega);have hge:0<r.len:=by have h9:=of_decide_eq_true hn13;simp only[Fo.len] at h9;omega
 have hlr:r.len+1≤100000:=hlen;refine jX 0 rfl<|P4 1 rfl<|MM 0 rfl ?_;rintro⟨eb0,eo0,k0a,k0c⟩ rfl;refine C3 [1] Am (rd [0,1,2,3,4,7,8] (.br 5 (.br 6 (.br 9 (.br 10 (.br 11 (.br 12 .fin .fin) .fin) .fin) .fin) (.br 9 (.br 6 (.br 10 (.br 11 (.br 12 .fin .fin) .fin) .fin) .fin) .fin)) .fin)) rfl kR<|A2 6 [0,100,0] (y<|aI (by simp only[Fo.len];omega)<|y2<|λ_=>Gn rfl rfl rfl (λw hK=>GI rfl rfl rfl Ku)<|Ag rfl ?_ Aj);refine J0 rfl rfl (eC Dh rfl rfl) (λw f hM=>ihx w f hM.vl hM.f5 p pk _ _ hall.1 hM.f0) (λ_=>⟨AD.mono,tQ⟩) (λe w2 f2 he hE=>⟨rfl,e,f2,rfl,(by simp[Bh,SP.need,Az,he,h1,h6,h9,h13,h14,h15,hn13]),hE⟩) ?_;rintro⟨nd6,and6,cnd6⟩ hnd6;dsimp only at hnd6 ⊢;refine Aa 1 [] (λ_=>Au [1] rfl<|Ag rfl ?_ ?_);refine Aa 2 [] (λb6=>λ_=>Au [2] rfl<|Ag rfl ?_ Aj);refine WC rfl rfl (eC CV rfl rfl) (λw f hM=>GH 111 LV (GX (n+1) (Cb (n+1))) (Gp n) (λw f hv hJ t k a c hd hT=>iha w f hv hJ t k a c hd hT) w f hM.vl hM.f6 r _ _ hall.2 oM hM.f4) (λ_=>⟨BU.mono,tQ⟩) (λe w2 f2 he hE=>⟨rfl,e,f2,rfl,(by simp[Bh,SP.need,Az,he,h1,h6,h9,h13,h14,h15,hn13,hnd6]),hE⟩) ?_;rintro⟨nds8,xnds8⟩ ands8 cnds8 hnds8;dsimp only at hnds8 ⊢;have hnl:=DI hnds8;refine Io (p:=∃rb,ands8=some ⟨rb,0,none⟩) (λw f hM=>by rcases (hM.row _ (.head _)).2 with ⟨_,_,h9⟩|⟨ob,_,h9,_⟩;(dsimp only at h9;omega);exact⟨ob,h9⟩) λhob=>?_;obtain⟨rb,rfl⟩:=hob;refine fE 0 rfl rfl<|Aa 1 [] (λ_=>AW [2] EE rfl (λ_ h=>.tail _ h)<|Ag rfl ?_ Aj);refine WM 0 6 1 rfl rfl rfl dC<|Io (p:=xnds8.length=nds8.len*6∧∀v∈xnds8,v.oneCell'=true) (λw f hM=>⟨BU.len hM.f0,BU.one' hM.f0⟩) λ⟨hxl,hx1⟩=>W6 0 0 rfl rfl L0 rfl rfl rfl rfl rfl rfl hxl hx1 oM (λ_ _=>rfl) oM oM λands9 cnds9=>Dl (λw f=>BU w f (nd6.cons nds8) (Kc nd6.op nd6.ln nd6.co nd6.tx nd6.nm and6 nd6.kids.len cnd6++xnds8)) (λw f hM=>BU.cons' hM.f1 hM.f0) BU.mono<|NT (λw f=>AD w f (nd6.cons nds8) ands9 cnds9) AD.mono (λw f hM=>JO hM hM.f0)<|Aa 1 [] (λ_=>AW [1] EE rfl (λ_ h=>.tail _ h)<|Ag rfl ?_ Aj);refine CN rfl rfl (eC Bf rfl rfl) (λw f hM=>A8 _ t _ _ _ _ _ _)<|Aa 1 [] (λ_=>AW [1] EE rfl (λ_ h=>.tail _ h)<|Ag rfl ?_ Aj);exact Aa 2 [0] (y<|λ_=>AW [1] EE rfl (λ_ h=>.tail _ h)<|Bk<|Aa 4 [] (λ_=>AL (λw f hM=>A9 rfl (Ac rfl B4 hM.k0 rfl)) (λw f hM=>⟨(⟨14,t.ln,t.co,[],0,(nd6.cons nds8)⟩,ands9,cnds9),f,(by simp[nV,Nd.app_len,N.one,N.cons,Nd.len,Nat.add_comm]),(by simp[Bh,SP.need,Az,h1,h6,h9,h13,h14,h15,hn13,hnd6,hnds8]),hM.exm,⟨hM.f0,tQ⟩⟩)));refine Ag rfl ?_ Aj;refine WC rfl rfl (eC CV rfl rfl) (λw f hM=>GH 111 LV (GX (n+1) (Cb (n+1))) (Gp n) (λw f hv hJ t k a c hd hT=>iha w f hv hJ t k a c hd hT) w f hM.vl hM.f6 r _ _ hall.2 oM hM.f4) (λ_=>⟨BU.mono,tQ⟩) (λe w2 f2 he hE=>⟨rfl,e,f2,rfl,(by simp[Bh,SP.need,Az,he,h1,h6,h9,h13,h14,h15,hn13,hnd6]),hE⟩) ?_;rintro⟨nds10,xnds10⟩ ands10 cnds10 hnds10;dsimp only at hnds10 ⊢;have hnl:=DI hnds10
 refine Io (p:=∃rb,ands10=some ⟨rb,0,none⟩) (λw f hM=>by rcases (hM.row _ (.head _)).2 with ⟨_,_,h9⟩|⟨ob,_,h9,_⟩;(dsimp only at h9;omega);exact⟨ob,h9⟩) λhob=>?_;obtain⟨rb,rfl⟩:=hob;refine fE 0 rfl rfl<|Aa 1 [] (λ_=>AW [1] EE rfl (λ_ h=>.tail _ h)<|Ag rfl ?_ Aj);refine Aa 2 [] (λb7=>λ_=>AW [2] EE rfl (λ_ h=>.tail _ h)<|Ag rfl ?_ Aj);refine WM 0 6 1 rfl rfl rfl dC<|Io (p:=xnds10.length=nds10.len*6∧∀v∈xnds10,v.oneCell'=true) (λw f hM=>⟨BU.len hM.f0,BU.one' hM.f0⟩) λ⟨hxl,hx1⟩=>W6 0 0 rfl rfl L0 rfl rfl rfl rfl rfl rfl hxl hx1 oM (λ_ _=>rfl) oM oM λands11 cnds11=>Dl (λw f=>BU w f (nd6.cons nds10) (Kc nd6.op nd6.ln nd6.co nd6.tx nd6.nm and6 nd6.kids.len cnd6++xnds10)) (λw f hM=>BU.cons' hM.f1 hM.f0) BU.mono<|NT (λw f=>AD w f (nd6.cons nds10) ands11 cnds11) AD.mono (λw f hM=>JO hM hM.f0)<|Aa 1 [] (λ_=>AW [1] EE rfl (λ_ h=>.tail _ h)<|Ag rfl ?_ Aj);refine CN rfl rfl (eC Bf rfl rfl) (λw f hM=>A8 _ t _ _ _ _ _ _)<|Aa 1 [] (λ_=>AW [1] EE rfl (λ_ h=>.tail _ h)<|Ag rfl ?_ Aj);exact Aa 2 [0] (y<|λ_=>AW [1] EE rfl (λ_ h=>.tail _ h)<|Bk<|Aa 4 [] (λ_=>AL (λw f hM=>A9 rfl (Ac rfl B4 hM.k0 rfl)) (λw f hM=>⟨(⟨14,t.ln,t.co,[],0,(nd6.cons nds10)⟩,ands11,cnds11),f,(by simp[nV,Nd.app_len,N.one,N.cons,Nd.len,Nat.add_comm]),(by simp[Bh,SP.need,Az,h1,h6,h9,h13,h14,h15,hn13,hnd6,hnds10]),hM.exm,⟨hM.f0,tQ⟩⟩)));refine Aa 6 [] (λ_=>AJ 145 rfl rfl (λh17=>?_) (λh17=>?_));obtain rfl:=beq_iff_eq.1 h17;refine Aa 2 [] (λ_=>Aa 4 [1] (y<|λ_=>AX rfl rfl (eC AB rfl rfl) (λw2 f2 he hE=>⟨rfl,_,f2,rfl,(by simp[Bh,SP.need,Az,he,h1,h6,h9,h13,h14,h15,D4]),hE⟩) λhn14=>Aa 20 [] (λ_=>?_)));obtain⟨p,pk,r,rfl⟩:=Fo.cases1 l (by have:=of_decide_eq_true hn14;omega);have hge:0<r.len:=by have h9:=of_decide_eq_true hn14;simp only[Fo.len] at h9;omega
 have hlr:r.len+1≤100000:=hlen;refine jX 0 rfl<|P4 1 rfl<|MM 0 rfl ?_;rintro⟨eb0,eo0,k0a,k0c⟩ rfl;refine C3 [1] Am (rd [0,1,2,3,4,7,8] (.br 5 (.br 6 (.br 9 (.br 10 (.br 11 (.br 12 .fin .fin) .fin) .fin) .fin) (.br 9 (.br 6 (.br 10 (.br 11 (.br 12 .fin .fin) .fin) .fin) .fin) .fin)) .fin)) rfl kR<|A2 6 [0,100,0] (y<|aI (by simp only[Fo.len];omega)<|y2<|λ_=>Gn rfl rfl rfl (λw hK=>GI rfl rfl rfl Ku)<|Ag rfl ?_ Aj);refine J0 rfl rfl (eC Dh rfl rfl) (λw f hM=>ihx w f hM.vl hM.f5 p pk _ _ hall.1 hM.f0) (λ_=>⟨AD.mono,tQ⟩) (λe w2 f2 he hE=>⟨rfl,e,f2,rfl,(by simp[Bh,SP.need,Az,he,h1,h6,h9,h13,h14,h15,D4,hn14]),hE⟩) ?_;rintro⟨nd7,and7,cnd7⟩ hnd7;dsimp only at hnd7 ⊢;refine Aa 1 [] (λ_=>Au [1] rfl<|Ag rfl ?_ ?_);refine Aa 2 [] (λb8=>λ_=>Au [2] rfl<|Ag rfl ?_ Aj);refine WC rfl rfl (eC CV rfl rfl) (λw f hM=>GH 111 LV (GX (n+1) (Cb (n+1))) (Gp n) (λw f hv hJ t k a c hd hT=>iha w f hv hJ t k a c hd hT) w f hM.vl hM.f6 r _ _ hall.2 oM hM.f4) (λ_=>⟨BU.mono,tQ⟩) (λe w2 f2 he hE=>⟨rfl,e,f2,rfl,(by simp[Bh,SP.need,Az,he,h1,h6,h9,h13,h14,h15,D4,hn14,hnd7]),hE⟩) ?_;rintro⟨nds12,xnds12⟩ ands12 cnds12 hnds12;dsimp only at hnds12 ⊢;have hnl:=DI hnds12;refine Io (p:=∃rb,ands12=some ⟨rb,0,none⟩) (λw f hM=>by rcases (hM.row _ (.head _)).2 with ⟨_,_,h9⟩|⟨ob,_,h9,_⟩;(dsimp only at h9;omega);exact⟨ob,h9⟩) λhob=>?_;obtain⟨rb,rfl⟩:=hob;refine fE 0 rfl rfl<|Aa 1 [] (λ_=>AW [2] EE rfl (λ_ h=>.tail _ h)<|Ag rfl ?_ Aj);refine WM 0 6 1 rfl rfl rfl dC<|Io (p:=xnds12.length=nds12.len*6∧∀v∈xnds12,v.oneCell'=true) (λw f hM=>⟨BU.len hM.f0,BU.one' hM.f0⟩) λ⟨hxl,hx1⟩=>W6 0 0 rfl rfl L0 rfl rfl rfl rfl rfl rfl hxl hx1 oM (λ_ _=>rfl) oM oM λands13 cnds13=>Dl (λw f=>BU w f (nd7.cons nds12) (Kc nd7.op nd7.ln nd7.co nd7.tx nd7.nm and7 nd7.kids.len cnd7++xnds12)) (λw f hM=>BU.cons' hM.f1 hM.f0) BU.mono<|NT (λw f=>AD w f (nd7.cons nds12) ands13 cnds13) AD.mono (λw f hM=>JO hM hM.f0)<|Aa 1 [] (λ_=>AW [1] EE rfl (λ_ h=>.tail _ h)<|Ag rfl ?_ Aj);refine CN rfl rfl (eC Bf rfl rfl) (λw f hM=>A8 _ t _ _ _ _ _ _)<|Aa 1 [] (λ_=>AW [1] EE rfl (λ_ h=>.tail _ h)<|Ag rfl ?_ Aj);exact Aa 2 [0] (y<|λ_=>AW [1] EE rfl (λ_ h=>.tail _ h)<|Bk<|Aa 4 [] (λ_=>AL (λw f hM=>A9 rfl (Ac rfl B4 hM.k0 rfl)) (λw f hM=>⟨(⟨15,t.ln,t.co,[],0,(nd7.cons nds12)⟩,ands13,cnds13),f,(by simp[nV,Nd.app_len,N.one,N.cons,Nd.len,Nat.add_comm]),(by simp[Bh,SP.need,Az,h1,h6,h9,h13,h14,h15,D4,hn14,hnd7,hnds12]),hM.exm,⟨hM.f0,tQ⟩⟩)));refine Ag rfl ?_ Aj;refine WC rfl rfl (eC CV rfl rfl) (λw f hM=>GH 111 LV (GX (n+1) (Cb (n+1))) (Gp n) (λw f hv hJ t k a c hd hT=>iha w f hv hJ t k a c hd hT) w f hM.vl hM.f6 r _ _ hall.2 oM hM.f4) (λ_=>⟨BU.mono,tQ⟩) (λe w2 f2 he hE=>⟨rfl,e,f2,rfl,(by simp[Bh,SP.need,Az,he,h1,h6,h9,h13,h14,h15,D4,hn14,hnd7]),hE⟩) ?_;rintro⟨nds14,xnds14⟩ ands14 cnds14 hnds14;dsimp only at hnds14 ⊢;have hnl:=DI hnds14
 refine Io (p:=∃rb,ands14=some ⟨rb,0,none⟩) (λw f hM=>by rcases (hM.row _ (.head _)).2 with ⟨_,_,h9⟩|⟨ob,_,h9,_⟩;(dsimp only at h9;omega);exact⟨ob,h9⟩) λhob=>?_;obtain⟨rb,rfl⟩:=hob;refine fE 0 rfl rfl<|Aa 1 [] (λ_=>AW [1] EE rfl (λ_ h=>.tail _ h)<|Ag rfl ?_ Aj);refine Aa 2 [] (λb9=>λ_=>AW [2] EE rfl (λ_ h=>.tail _ h)<|Ag rfl ?_ Aj);refine WM 0 6 1 rfl rfl rfl dC<|Io (p:=xnds14.length=nds14.len*6∧∀v∈xnds14,v.oneCell'=true) (λw f hM=>⟨BU.len hM.f0,BU.one' hM.f0⟩) λ⟨hxl,hx1⟩=>W6 0 0 rfl rfl L0 rfl rfl rfl rfl rfl rfl hxl hx1 oM (λ_ _=>rfl) oM oM λands15 cnds15=>Dl (λw f=>BU w f (nd7.cons nds14) (Kc nd7.op nd7.ln nd7.co nd7.tx nd7.nm and7 nd7.kids.len cnd7++xnds14)) (λw f hM=>BU.cons' hM.f1 hM.f0) BU.mono<|NT (λw f=>AD w f (nd7.cons nds14) ands15 cnds15) AD.mono (λw f hM=>JO hM hM.f0)<|Aa 1 [] (λ_=>AW [1] EE rfl (λ_ h=>.tail _ h)<|Ag rfl ?_ Aj);refine CN rfl rfl (eC Bf rfl rfl) (λw f hM=>A8 _ t _ _ _ _ _ _)<|Aa 1 [] (λ_=>AW [1] EE rfl (λ_ h=>.tail _ h)<|Ag rfl ?_ Aj);exact Aa 2 [0] (y<|λ_=>AW [1] EE rfl (λ_ h=>.tail _ h)<|Bk<|Aa 4 [] (λ_=>AL (λw f hM=>A9 rfl (Ac rfl B4 hM.k0 rfl)) (λw f hM=>⟨(⟨15,t.ln,t.co,[],0,(nd7.cons nds14)⟩,ands15,cnds15),f,(by simp[nV,Nd.app_len,N.one,N.cons,Nd.len,Nat.add_comm]),(by simp[Bh,SP.need,Az,h1,h6,h9,h13,h14,h15,D4,hn14,hnd7,hnds14]),hM.exm,⟨hM.f0,tQ⟩⟩)));refine Aa 8 [] (λ_=>AJ 166 rfl rfl (λh18=>?_) (λh18=>?_));obtain rfl:=beq_iff_eq.1 h18;refine Aa 5 [] (λ_=>?_);rcases Fo.single l with ⟨p,pk,rfl⟩|hne
 refine P4 0 rfl<|MM 0 rfl ?_;rintro⟨eb0,eo0,k0a,k0c⟩ rfl;refine Aa 4 [1] (y<|λ_=>AX rfl rfl (eC AB rfl rfl) (λw2 f2 he hE=>⟨rfl,_,f2,rfl,(by simp[Fo.len] at he),hE⟩) λhn15=>Aa 18 [] (λ_=>C3 [1] Am (rd [0,1,2,3,4] (.br 5 (.br 6 (.br 7 (.br 8 .fin .fin) .fin) .fin) .fin)) rfl kR<|A2 5 [0,100,0] (y<|aI (by simp only[Fo.len];omega)<|y2<|λ_=>Ag rfl ?_ Aj)));refine J0 rfl rfl (eC Dh rfl rfl) (λw f hM=>ihx w f hM.vl hM.f4 p pk _ _ hall.1 hM.f0) (λ_=>⟨AD.mono,tQ⟩) (λe w2 f2 he hE=>⟨rfl,e,f2,rfl,(by simp[Bh,SP.need,Az,he,h1,h6,h9,h13,h14,h15,D4,h17,hn15]),hE⟩) ?_;rintro⟨nd8,and8,cnd8⟩ hnd8;dsimp only at hnd8 ⊢;refine Aa 1 [] (λ_=>Au [1] rfl<|Ag rfl ?_ Aj);refine Aa 2 [] (λb10=>λ_=>Au [2] rfl<|Ag rfl ?_ Aj);refine CG 0 rfl rfl<|Dl (λw f=>AD w f (nd8.one) (some ⟨b10,0,none⟩) 1) (λw f hM=>BU.toF (BU.cons' hM.f0 (show BU _ _ .nil [] from rfl)) hM.b0 (Nat.le_refl _)) AD.mono<|CN rfl rfl (eC Bf rfl rfl) (λw f hM=>A8 _ t _ _ _ _ _ _)<|Aa 1 [] (λ_=>AW [1] EE rfl (λ_ h=>.tail _ h)<|Ag rfl ?_ Aj);exact Aa 2 [0] (y<|λ_=>AW [1] EE rfl (λ_ h=>.tail _ h)<|Bk<|Aa 4 [] (λ_=>AL (λw f hM=>A9 rfl (Ac rfl B4 hM.k0 rfl)) (λw f hM=>⟨(⟨16,t.ln,t.co,[],0,(nd8.one)⟩,(some ⟨b10,0,none⟩),1),f,rfl,(by simp[Bh,SP.need,Az,h1,h6,h9,h13,h14,h15,D4,h17,hn15,hnd8]),hM.exm,⟨hM.f0,tQ⟩⟩)));exact Aa 4 [1] (y<|λ_=>AX rfl rfl (eC AB rfl rfl) (λw2 f2 he hE=>⟨rfl,_,f2,rfl,(by rw[YL (.inl rfl) hne]),hE⟩) λhn16=>absurd (by have h9:=beq_iff_eq.1 hn16;omega) hne);refine Aa 6 [] (λ_=>AJ 166 rfl rfl (λh19=>?_) (λh19=>?_));obtain rfl:=beq_iff_eq.1 h19;refine Aa 2 [] (λ_=>?_);rcases Fo.single l with ⟨p,pk,rfl⟩|hne
 refine P4 0 rfl<|MM 0 rfl ?_;rintro⟨eb0,eo0,k0a,k0c⟩ rfl;refine Aa 4 [1] (y<|λ_=>AX rfl rfl (eC AB rfl rfl) (λw2 f2 he hE=>⟨rfl,_,f2,rfl,(by simp[Fo.len] at he),hE⟩) λhn17=>Aa 20 [] (λ_=>C3 [1] Am (rd [0,1,2,3,4] (.br 5 (.br 6 (.br 7 (.br 8 .fin .fin) .fin) .fin) .fin)) rfl kR<|A2 5 [0,100,0] (y<|aI (by simp only[Fo.len];omega)<|y2<|λ_=>Ag rfl ?_ Aj)));refine J0 rfl rfl (eC Dh rfl rfl) (λw f hM=>ihx w f hM.vl hM.f4 p pk _ _ hall.1 hM.f0) (λ_=>⟨AD.mono,tQ⟩) (λe w2 f2 he hE=>⟨rfl,e,f2,rfl,(by simp[Bh,SP.need,Az,he,h1,h6,h9,h13,h14,h15,D4,h17,h18,hn17]),hE⟩) ?_;rintro⟨nd9,and9,cnd9⟩ hnd9;dsimp only at hnd9 ⊢;refine Aa 1 [] (λ_=>Au [1] rfl<|Ag rfl ?_ Aj);refine Aa 2 [] (λb11=>λ_=>Au [2] rfl<|Ag rfl ?_ Aj);refine CG 0 rfl rfl<|Dl (λw f=>AD w f (nd9.one) (some ⟨b11,0,none⟩) 1) (λw f hM=>BU.toF (BU.cons' hM.f0 (show BU _ _ .nil [] from rfl)) hM.b0 (Nat.le_refl _)) AD.mono<|CN rfl rfl (eC Bf rfl rfl) (λw f hM=>A8 _ t _ _ _ _ _ _)<|Aa 1 [] (λ_=>AW [1] EE rfl (λ_ h=>.tail _ h)<|Ag rfl ?_ Aj);exact Aa 2 [0] (y<|λ_=>AW [1] EE rfl (λ_ h=>.tail _ h)<|Bk<|Aa 4 [] (λ_=>AL (λw f hM=>A9 rfl (Ac rfl B4 hM.k0 rfl)) (λw f hM=>⟨(⟨17,t.ln,t.co,[],0,(nd9.one)⟩,(some ⟨b11,0,none⟩),1),f,rfl,(by simp[Bh,SP.need,Az,h1,h6,h9,h13,h14,h15,D4,h17,h18,hn17,hnd9]),hM.exm,⟨hM.f0,tQ⟩⟩)));exact Aa 4 [1] (y<|λ_=>AX rfl rfl (eC AB rfl rfl) (λw2 f2 he hE=>⟨rfl,_,f2,rfl,(by rw[YL (.inr rfl) hne]),hE⟩) λhn18=>absurd (by have h9:=beq_iff_eq.1 hn18;omega) hne);exact Aa 7 [1] (y<|λ_=>iH rfl rfl (eC TJ rfl rfl) (pe:=λe=>e=(t.ln,t.co)) (T:=61) (λw f hM=>(HY w t _).mono (λ_ _ h=>h.elim) λ_ w2 ⟨h1,h2⟩=>⟨_,f,h1,rfl,C2.of_ext h2 hM.vl⟩) (λe w2 f2 he hE=>by subst he;exact⟨rfl,_,f2,rfl,(by simp[Bh,SP.need,Az,h1,h6,h9,h13,h14,h15,D4,h17,h18,h19]),hE⟩))
theorem TX(w:World)(hG:Gl w)(tx:lU):Bo prog 57 #[S eG,S ([32]++tx++[32])] w λv w'=>v=.bool (N4 tx)∧AS w w':=Hm w hG _ _ dC
theorem QV(n:Nat)(ih:∀n',n=n'+1→∀ (w:World) (f:Fq) (_:Vl w f) (_:Db w f) (t:AK) (k:Fo) (a:Option Addr) (c:Nat),Gp n' t k→DH w f k a c→BB prog 49 #[fV t a k.len c] w (Hy (Cb (n'+1) t k) w f) (HT 61 (Cb (n'+1) t k) w f))(iha:∀n',n=n'+1→∀ (w:World) (f:Fq) (_:Vl w f) (_:Db w f) (t:AK) (k:Fo) (a:Option Addr) (c:Nat),Gp n' t k→DH w f k a c→BB prog 111 #[fV t a k.len c] w (Hy (GX (n'+1) (Cb (n'+1)) t k) w f) (HT 61 (GX (n'+1) (Cb (n'+1)) t k) w f))(w:World)(f:Fq)(hv:Vl w f)(hJ:Db w f)(t:AK)(k:Fo)(ka:Option Addr)(kc:Nat)(hp:Gp n t k)(hL:DH w f k ka kc) :
  BB prog 49 #[fV t ka k.len kc] w (Hy (Cb (n+1) t k) w f) (HT 61 (Cb (n+1) t k) w f):=by
 refine Mr (X:=X0 w f) (H:=[]) (R:=[]) (B:=[]) (Fs:=[λw f=>DH w f k ka kc,λw f=>Db w f]) (f:=f) func49 rfl rfl rfl (BR hv ⟨hL,hJ,tQ⟩ ⟨DH.mono,Db.mono,tQ⟩)<|Aa 21 [1] (λb1=>λb2=>y<|λ_=>AJ 8 rfl rfl (λh1=>?_) (λh1=>?_));exact Aa 16 [1,1,0] (y<|y<|y<|λ_=>AL (λw f hM=>A9 rfl (Ac rfl B4 hM.k0 rfl)) (λw f hM=>⟨(⟨1,t.ln,t.co,[],t.nm,.nil⟩,none,0),f,rfl,(by unfold Cb;simp[SP.need,Az,h1]),hM.exm,⟨⟨Nat.zero_le _,.inl rfl⟩,tQ⟩⟩));refine Aa 7 [] (λ_=>AJ 17 rfl rfl (λh2=>?_) (λh2=>?_));exact Aa 7 [1,1] (y<|y<|λ_=>CN rfl rfl (eC Bf rfl rfl) (λw f hM=>A8 _ t _ _ _ _ _ _)<|Aa 6 [0] (y<|λ_=>AL (λw f hM=>A9 rfl (Ac rfl B4 hM.k0 rfl)) (λw f hM=>⟨(⟨2,t.ln,t.co,t.tx,0,.nil⟩,none,0),f,rfl,(by unfold Cb;simp[SP.need,Az,h1,h2]),hM.exm,⟨⟨Nat.zero_le _,.inl rfl⟩,tQ⟩⟩)));refine Aa 7 [] (λ_=>AJ 24 rfl rfl (λh3=>?_) (λh3=>?_));exact Aa 7 [1,1] (y<|y<|λ_=>CN rfl rfl (eC Bf rfl rfl) (λw f hM=>A8 _ t _ _ _ _ _ _)<|Aa 6 [0] (y<|λ_=>AL (λw f hM=>A9 rfl (Ac rfl B4 hM.k0 rfl)) (λw f hM=>⟨(⟨3,t.ln,t.co,t.tx,0,.nil⟩,none,0),f,rfl,(by unfold Cb;simp[SP.need,Az,h1,h2,h3]),hM.exm,⟨⟨Nat.zero_le _,.inl rfl⟩,tQ⟩⟩)));refine Aa 7 [] (λ_=>AJ 31 rfl rfl (λh4=>?_) (λh4=>?_));exact Aa 7 [1,1] (y<|y<|λ_=>CN rfl rfl (eC Bf rfl rfl) (λw f hM=>A8 _ t _ _ _ _ _ _)<|Aa 6 [0] (y<|λ_=>AL (λw f hM=>A9 rfl (Ac rfl B4 hM.k0 rfl)) (λw f hM=>⟨(⟨6,t.ln,t.co,t.tx,0,.nil⟩,none,0),f,rfl,(by unfold Cb;simp[SP.need,Az,h1,h2,h3,h4]),hM.exm,⟨⟨Nat.zero_le _,.inl rfl⟩,tQ⟩⟩)));refine Aa 7 [] (λ_=>AJ 38 rfl rfl (λh5=>?_) (λh5=>?_));refine Aa 2 [] (λ_=>C3 [0,1] Am (.rd 0 (.rd 1 (.br 2 (.br 3 .fin .fin) .fin))) rfl kR<|A2 2 [1,1] (y<|y<|λ_=>Ag rfl ?_ Aj));refine CN rfl rfl (eC No rfl rfl) (λw f hM=>En _ (Db.gl hM.f1) t _ hp.1.1 hp.1.2)<|Aa 1 [] (λ_=>Au [0,1] rfl<|Ag rfl ?_ Aj);exact AX rfl rfl (eC AB rfl rfl) (λw2 f2 he hE=>⟨rfl,_,f2,rfl,(by unfold Cb;simp[SP.need,Az,he,h1,h2,h3,h4,h5]),hE⟩) λhn1=>Aa 1 [] (λ_=>Au [0,1] rfl<|Bk<|Aa 7 [1,1] (y<|y<|λ_=>CN rfl rfl (eC Bf rfl rfl) (λw f hM=>A8 _ t _ _ _ _ _ _)<|Aa 6 [0] (y<|λ_=>AL (λw f hM=>A9 rfl (Ac rfl B4 hM.k0 rfl)) (λw f hM=>⟨(⟨5,t.ln,t.co,t.tx,0,.nil⟩,none,0),f,rfl,(by unfold Cb;simp[SP.need,Az,h1,h2,h3,h4,h5,hn1]),hM.exm,⟨⟨Nat.zero_le _,.inl rfl⟩,tQ⟩⟩))));refine Aa 13 [1] (y<|λ_=>AJ 52 rfl rfl (λh6=>?_) (λh6=>?_));refine Aa 2 [] (λ_=>?_);obtain rfl:k=.nil:=Fo.len0 (by have h9:((k.len:Int)==0)=true:=h6;have:=beq_iff_eq.1 h9;omega);exact Aa 2 [1] (y<|λ_=>CN rfl rfl (eC Bf rfl rfl) (λw f hM=>A8 _ t _ _ _ _ _ _)<|Aa 5 [0] (y<|λ_=>AL (λw f hM=>A9 rfl (Ac rfl B4 hM.k0 rfl)) (λw f hM=>⟨(⟨4,t.ln,t.co,[],0,.nil⟩,none,0),f,rfl,(by unfold Cb;simp[SP.need,Az,h1,h2,h3,h4,h5,h6]),hM.exm,⟨⟨Nat.zero_le _,.inl rfl⟩,tQ⟩⟩)));refine Aa 4 [] (λ_=>?_);obtain⟨h,hk,r,rfl⟩:=Fo.cases1 k (by have h9:((k.len:Int)==0)=false:=h6;have:=beq_eq_false_iff_ne.1 h9;omega);have hp0:=hp;obtain⟨hto,hko,hkl,hdp⟩:=hp
 have hkl2:r.len+1≤100000:=hkl;obtain⟨n,rfl⟩:∃q,n=q+1:=by cases n with|zero=>exact absurd hdp (by simp[Fo.deep])|succ q=>exact⟨q,rfl⟩
 have htl:=hko.1.2;refine jX 0 rfl<|P4 1 rfl<|MM 0 rfl ?_;rintro⟨eb,eo,hka,hkc⟩ rfl;refine C3 [0,1] Am (rd [0,1,2,3,4,5,6] (.br 7 (.br 8 (.rd 9 .fin) .fin) .fin)) rfl kR<|A2 6 [1,100,0,1] (y<|aI (by simp only[Fo.len];omega)<|y2<|y<|λ_=>Gn rfl rfl rfl (λw hK=>GI rfl rfl rfl Ku)<|Ag rfl ?_ Aj);refine Aa 2 [] (λb3=>λ_=>Au [1,2] rfl<|Ag rfl ?_ Aj);refine Aa 2 [0] (y<|λ_=>Au [1,2] rfl<|A2 1 [] (λ_=>Bk<|Aa 12 [0] (y<|λ_=>AJ 62 rfl rfl (λh7=>?_) (λh7=>?_))));refine Aa 2 [] (λ_=>C3 [0,1,2] Am (rd [0,1,2] (.br 3 (.br 4 .fin .fin) .fin)) rfl kR<|A2 3 [2] (y<|λ_=>Ag rfl ?_ Aj));refine CN rfl rfl (eC HR rfl rfl) (λw f hM=>CO _ _ _ _)<|Aa 1 [] (λ_=>Au [0,1,2] rfl<|Ag rfl ?_ Aj);refine AX rfl rfl (eC AB rfl rfl) (λw2 f2 he hE=>⟨rfl,_,f2,rfl,(by unfold Cb;simp[SP.need,Az,he,h1,h2,h3,h4,h5,h6,h7]),hE⟩) λhn2=>Aa 1 [] (λ_=>Au [0,1,2] rfl<|Bk<|Aa 2 [] (λ_=>C3 [0,2] Am (rd [0,1,2,3,4] (.br 5 (.br 6 (.br 7 .fin .fin) .fin) .fin)) rfl kR<|A2 5 [1,0] (y<|y<|λ_=>Ag rfl ?_ Aj)));refine J0 rfl rfl (eC CV rfl rfl) (λw f hM=>BM 49 Dh (Cb (n+1)) (Gp n) (λw f hv hJ t k a c hd hT=>ih n rfl w f hv hJ t k a c hd hT) w f hM.vl hM.f5 r _ _ (De hp0).2 oM hM.f3) (λ_=>⟨AD.mono,tQ⟩) (λe w2 f2 he hE=>⟨rfl,e,f2,rfl,(by unfold Cb;simp[SP.need,Az,he,h1,h2,h3,h4,h5,h6,h7,hn2]),hE⟩) ?_;rintro⟨⟨nds1,xnds1⟩,ands1,cnds1⟩ hnds1;dsimp only at hnds1 ⊢;refine Aa 1 [] (λ_=>Au [0,2] rfl<|Ag rfl ?_ Aj);refine CN rfl rfl (eC Bf rfl rfl) (λw f hM=>A8 _ t _ _ _ _ _ _)<|Aa 1 [] (λ_=>Au [0,2] rfl<|Ag rfl ?_ Aj);exact Aa 2 [1] (y<|λ_=>Au [0,2] rfl<|Bk<|Aa 4 [] (λ_=>AL (λw f hM=>A9 rfl (Ac rfl B4 hM.k1 rfl)) (λw f hM=>⟨(⟨6,t.ln,t.co,h.tx,0,nds1⟩,ands1,cnds1),f,rfl,(by unfold Cb;simp[SP.need,Az,h1,h2,h3,h4,h5,h6,h7,hn2,hnds1]),hM.exm,⟨hM.f0,tQ⟩⟩)));refine Aa 4 [0] (y<|λ_=>CN rfl rfl (eC XL rfl rfl) (λw f hM=>FE _ h _)<|Aa 1 [] (λ_=>AJ 82 rfl rfl (λh8=>?_) (λh8=>?_)));refine Aa 5 [0] (y<|aI (by simp <;> omega)<|aI (by simp <;> omega)<|λ_=>CN rfl rfl (eC Qk rfl rfl) (λw f hM=>TX _ (Db.gl hM.f5) h.tx)<|Aa 4 [] (λ_=>AJ 79 rfl rfl (λh9=>?_) (λh9=>?_)));refine Aa 8 [2,0] (y<|y<|λ_=>?_);refine J0 rfl rfl (eC iT rfl rfl) (λw f hM=>W8 n (ih n rfl) (iha n rfl) w f hM.vl hM.f5 t (.cons h hk r) _ _ h.tx r _ _ (De hp0).2 oM hM.f3) (λ_=>⟨AD.mono,tQ⟩) (λe w2 f2 he hE=>⟨rfl,e,f2,rfl,(by unfold Cb;simp[SP.need,Az,he,h1,h2,h3,h4,h5,h6,h7,h8,h9]),hE⟩) ?_;rintro⟨nd1,and1,cnd1⟩ hnd1;dsimp only at hnd1 ⊢;exact Aa 6 [1] (y<|λ_=>AL (λw f hM=>A9 rfl (Ac rfl B4 hM.k1 rfl)) (λw f hM=>⟨(nd1,and1,cnd1),f,rfl,(by unfold Cb;simp[SP.need,Az,h1,h2,h3,h4,h5,h6,h7,h8,h9,hnd1]),hM.exm,⟨hM.f0,tQ⟩⟩));refine Aa 5 [] (λ_=>C3 [0,1,2] Am (rd [0,1,2] (.br 3 (.br 4 .fin .fin) .fin)) rfl kR<|A2 3 [2] (y<|λ_=>Ag rfl ?_ Aj));refine CN rfl rfl (eC HR rfl rfl) (λw f hM=>CO _ _ _ _)<|Aa 1 [] (λ_=>Au [0,1,2] rfl<|Ag rfl ?_ Aj)
 refine AX rfl rfl (eC AB rfl rfl) (λw2 f2 he hE=>⟨rfl,_,f2,rfl,(by unfold Cb;simp[SP.need,Az,he,h1,h2,h3,h4,h5,h6,h7,h8,h9]),hE⟩) λhn3=>Aa 1 [] (λ_=>Au [0,1,2] rfl<|Bk<|Aa 2 [] (λ_=>C3 [0,2] Am (rd [0,1,2] (.br 3 (.br 4 (.br 5 .fin .fin) .fin) .fin)) rfl kR<|A2 3 [1,1] (y<|y<|λ_=>Ag rfl ?_ Aj)));refine J0 rfl rfl (eC CV rfl rfl) (λw f hM=>BM 49 Dh (Cb (n+1)) (Gp n) (λw f hv hJ t k a c hd hT=>ih n rfl w f hv hJ t k a c hd hT) w f hM.vl hM.f5 (.cons h hk r) _ _ (De hp0) hkl hM.f4) (λ_=>⟨AD.mono,tQ⟩) (λe w2 f2 he hE=>⟨rfl,e,f2,rfl,(by unfold Cb;simp[SP.need,Az,he,h1,h2,h3,h4,h5,h6,h7,h8,h9,hn3]),hE⟩) ?_;rintro⟨⟨nds2,xnds2⟩,ands2,cnds2⟩ hnds2;dsimp only at hnds2 ⊢;refine Aa 1 [] (λ_=>Au [0,2] rfl<|Ag rfl ?_ Aj);refine CN rfl rfl (eC Bf rfl rfl) (λw f hM=>A8 _ t _ _ _ _ _ _)<|Aa 1 [] (λ_=>Au [0,2] rfl<|Ag rfl ?_ Aj);exact Aa 2 [1] (y<|λ_=>Au [0,2] rfl<|Bk<|Aa 2 [] (λ_=>AL (λw f hM=>A9 rfl (Ac rfl B4 hM.k1 rfl)) (λw f hM=>⟨(⟨8,t.ln,t.co,[],0,nds2⟩,ands2,cnds2),f,rfl,(by unfold Cb;simp[SP.need,Az,h1,h2,h3,h4,h5,h6,h7,h8,h9,hn3,hnds2]),hM.exm,⟨hM.f0,tQ⟩⟩)));refine Aa 15 [] (λ_=>C3 [0,1,2] Am (rd [0,1,2] (.br 3 (.br 4 .fin .fin) .fin)) rfl kR<|A2 3 [2] (y<|λ_=>Ag rfl ?_ Aj));refine CN rfl rfl (eC HR rfl rfl) (λw f hM=>CO _ _ _ _)<|Aa 1 [] (λ_=>Au [0,1,2] rfl<|Ag rfl ?_ Aj);refine AX rfl rfl (eC AB rfl rfl) (λw2 f2 he hE=>⟨rfl,_,f2,rfl,(by unfold Cb;simp[SP.need,Az,he,h1,h2,h3,h4,h5,h6,h7,h8]),hE⟩) λhn4=>Aa 1 [] (λ_=>Au [0,1,2] rfl<|Bk<|Aa 2 [] (λ_=>C3 [0,2] Am (rd [0,1,2] (.br 3 (.br 4 (.br 5 .fin .fin) .fin) .fin)) rfl kR<|A2 3 [1,1] (y<|y<|λ_=>Ag rfl ?_ Aj)));refine J0 rfl rfl (eC CV rfl rfl) (λw f hM=>BM 49 Dh (Cb (n+1)) (Gp n) (λw f hv hJ t k a c hd hT=>ih n rfl w f hv hJ t k a c hd hT) w f hM.vl hM.f5 (.cons h hk r) _ _ (De hp0) hkl hM.f4) (λ_=>⟨AD.mono,tQ⟩) (λe w2 f2 he hE=>⟨rfl,e,f2,rfl,(by unfold Cb;simp[SP.need,Az,he,h1,h2,h3,h4,h5,h6,h7,h8,hn4]),hE⟩) ?_;rintro⟨⟨nds3,xnds3⟩,ands3,cnds3⟩ hnds3;dsimp only at hnds3 ⊢;refine Aa 1 [] (λ_=>Au [0,2] rfl<|Ag rfl ?_ Aj);refine CN rfl rfl (eC Bf rfl rfl) (λw f hM=>A8 _ t _ _ _ _ _ _)<|Aa 1 [] (λ_=>Au [0,2] rfl<|Ag rfl ?_ Aj);exact Aa 2 [1] (y<|λ_=>Au [0,2] rfl<|Bk<|Aa 2 [] (λ_=>AL (λw f hM=>A9 rfl (Ac rfl B4 hM.k1 rfl)) (λw f hM=>⟨(⟨8,t.ln,t.co,[],0,nds3⟩,ands3,cnds3),f,rfl,(by unfold Cb;simp[SP.need,Az,h1,h2,h3,h4,h5,h6,h7,h8,hn4,hnds3]),hM.exm,⟨hM.f0,tQ⟩⟩)))
end Go.Proofs.YtelmolopaolbcaaGreatDoor
namespace Go.SP
open Go.SW Go.RowKit
def L4(l:List lU):List (lU×Value):=l.map λk=>(k,.bool true)
theorem UN(n:lU):∀l:List lU,Em (L4 l) n=if l.contains n then some (.bool true) else none
 | []=>rfl
 |k::l=>by
   have:=UN n l;simp only[L4,List.map,Em,List.contains_cons] at this ⊢
   by_cases hk:n=k
   · subst hk;simp
   · have e:(n==k)=false:=by simpa using hk
     rw[e,this];simp
theorem uQ(n:lU)(l:List lU):(Em (L4 l) n).getD (.bool false)=.bool (l.contains n):=by rw[UN];cases l.contains n <;> rfl
theorem tO{n:lU}{l:List lU}(h:l.contains n=false):Em (L4 l) n=none:=by rw[UN,h];rfl
theorem lP:∀{l:List lU},l.Nodup→Iw (L4 l)
 | [],_=>trivial
 |k::l,h=>⟨by
     have h':=List.nodup_cons.1 h;show Em (L4 l) k=none;rw[UN,if_neg];simpa using h'.1,lP (List.nodup_cons.1 h).2⟩
abbrev J9(m:Nat)(l:List lU):World→Fq→Prop:=λw _=>BE BI w m (L4 l)
variable {m:Nat}
theorem Jc{l:List lU}:EV (λb=>b=m) (J9 m l):=λ_ _ _ _ h _ hb=>h.heap (hb m rfl)
section
variable{s s0 s2:List lU}{op ln co nm:Int}{tx:lU}{k k0 r:Nd}
theorem Uv(h:(op==22)=false):BH s (.cons op ln co tx nm k .nil)=BH s k:=by
 simp only[BH,h];show (match BH s k with|none=>none|some s2=>some s2)=_
 cases BH s k <;> rfl
theorem RM(h:(op==22)=true)(h2:s.contains tx=false):BH s (.cons op ln co tx nm k .nil)=BH (tx::s) k:=by
 simp only[BH,h,h2];show (match BH (tx::s) k with|none=>none|some s2=>some s2)=_
 cases BH (tx::s) k <;> rfl
theorem Z9(h:(op==22)=true)(h2:s.contains tx=true):BH s (.cons op ln co tx nm k .nil)=none:=by
 simp only[BH,h,h2];rfl
theorem On(hk:BH s0 k0=BH s (.cons op ln co tx nm k r))(h:(BH s (.cons op ln co tx nm k .nil)).isSome=true)(hs:∀s',BH s (.cons op ln co tx nm k .nil)=some s'→s'=s2):BH s0 k0=BH s2 r:=by
 obtain⟨s',h'⟩:=Option.isSome_iff_exists.1 h;obtain rfl:=hs s' h';rw[hk,Mj,h']
theorem QE(hk:BH s0 k0=BH s (.cons op ln co tx nm k r))(h:(BH s (.cons op ln co tx nm k .nil)).isSome=false):BH s0 k0=none:=by
 rw[hk,Mj]
 cases h':BH s (.cons op ln co tx nm k .nil) with
 |none=>rfl
 |some _=>rw[h'] at h;cases h
end
def fX(P:Program)(fid:FuncId)(n:Nat):Prop:=∀(w:World)(f:Fq)(_:Vl w f)(m:Nat)(seen:List lU),J9 m seen w f→f m=0→seen.Nodup→∀(op ln co nm:Int)(tx:lU)(kids:Nd)(na:Option Addr)(nc:Nat),kids.size<n→kids.len≤100000∧kids.ok→AD w f kids na nc →
 Bo P fid #[.agg #[.int .i64 op,.int .i64 ln,.int .i64 co,S tx,.int .i64 nm,.slice na kids.len nc],.map (some m)] w (JG (α:=List lU) (λ_=>.bool (BH seen (.cons op ln co tx nm kids .nil)).isSome) (λs=>(∀s',BH seen (.cons op ln co tx nm kids .nil)=some s'→s'=s)∧s.Nodup) (λb=>b=m) (λ_ b=>b=m) (λs=>J9 m s) (λ_=>[]) w f)
theorem Fo.all_imp{p q:AK→Fo→Prop}(h:∀t k,p t k→q t k):∀{fo:Fo},fo.all p→fo.all q
 |.nil,_=>trivial
 |.cons _ _ _,hp=>⟨h _ _ hp.1,Fo.all_imp h hp.2⟩
theorem cO:∀{n:Nat}{t:AK}{k:Fo},Gp n t k→k.all (Gp n)
 |0,_,.nil,_=>trivial
 |0,_,.cons _ _ _,h=>absurd h.2.2.2 (by simp[Fo.deep])
 |_+1,_,_,h=>Fo.all_imp (λ_ _ h=>Ry h) (De h)
theorem U4{n:Nat}{ex:AK→Fo→R N}{t:AK}{k:Fo}(h:k.len≠2):GX n ex t k=.error (t.ln,t.co):=by
 unfold GX
 split
 · simp[Fo.len] at h
 · rfl
end Go.SP
namespace Go.SP
open Go.SW Go.RowKit
theorem Nd.getN(i:Nat)(x:Nd)(h:i<x.len):∃q:N,x.drop i=q.cons (x.drop (i+1)) :=
 let ⟨op,ln,co,tx,nm,k,e⟩:=Nd.drop_lt i x h
 ⟨⟨op,ln,co,tx,nm,k⟩,e⟩
variable {f:Fq}{i:Nat}{a:Option Addr}{w:World}
theorem AT.elem{q:N}:∀{i:Nat}{k:Nd}{j:Nat},AT w f a j k→k.drop i=q.cons (k.drop (i+1))→∃b off ka kc,a=some ⟨b,off,none⟩∧Cs w f b (off+(j+i)*6) (Kc q.op q.ln q.co q.tx q.nm ka q.kids.len kc)∧AD w f q.kids ka kc
 |0,k,j,h,e=>by
   have e:k=q.cons (k.drop 1):=e;rw[e] at h;obtain⟨b,off,ka,kc,h1,h2,h3,-⟩:=AT.head h;exact⟨b,off,ka,kc,h1,h2,h3⟩
 |_+1,.nil,_,_,e=>by cases e
 |i+1,.cons _ _ _ _ _ _ r,j,h,e=>by
   obtain⟨_,_,_,_,_,_,_,h4⟩:=AT.head h;have:=AT.elem (i:=i) (k:=r) h4 e;rwa[show j+1+i=j+(i+1) by omega] at this
theorem AD.elem{q:N}{c:Nat}{k:Nd}(h:AD w f k a c)(e:k.drop i=q.cons (k.drop (i+1))):∃b off ka kc,a=some ⟨b,off,none⟩∧Cs w f b (off+i*6) (Kc q.op q.ln q.co q.tx q.nm ka q.kids.len kc)∧AD w f q.kids ka kc:=by
 have:=AT.elem (AD.at h) e;rwa[Nat.zero_add] at this
end Go.SP
namespace Go.SP
theorem Fo.nc:∀k:Fo,k=.nil∨∃h hk r,k=.cons h hk r
 |.nil=>.inl rfl
 |.cons h hk r=>.inr ⟨h,hk,r,rfl⟩
theorem Fo.most:∀l:Fo,(∃a ak b bk c ck r,l=.cons a ak (.cons b bk (.cons c ck r)))∨l.len<3
 |.nil=>.inr (by simp[Fo.len])
 |.cons _ _ .nil=>.inr (by simp[Fo.len])
 |.cons _ _ (.cons _ _ .nil)=>.inr (by simp[Fo.len])
 |.cons a ak (.cons b bk (.cons c ck r))=>.inl ⟨a,ak,b,bk,c,ck,r,rfl⟩
section
variable{n:Nat}{t h:AK}{hk l:Fo}{b:Bool}{X:R N}
theorem H9(hX:X=.error (t.ln,t.co)):SP.need t b X=.error (t.ln,t.co):=by subst hX;cases b <;> rfl
theorem aA(hw:h.tx=[100,97,116,97])(hl:l.len<3):CC n t (.cons h hk l)=.error (t.ln,t.co):=by
 unfold CC;refine H9 ?_;rw[if_pos (by rw[hw];decide)]
 split
 · simp[Fo.len] at hl;omega
 · rfl
theorem cL(hw:h.tx=[114,111,111,116])(hl:l.len≠3):CC n t (.cons h hk l)=.error (t.ln,t.co):=by
 unfold CC;refine H9 ?_;rw[if_neg (by rw[hw];decide),if_pos (by rw[hw];decide)]
 split
 · simp[Fo.len] at hl
 · rfl
theorem iZ(hw:h.tx=[100,101,102])(hl:l.len≠2):CC n t (.cons h hk l)=.error (t.ln,t.co):=by
 unfold CC;refine H9 ?_;rw[if_neg (by rw[hw];decide),if_neg (by rw[hw];decide),if_pos (by rw[hw];decide)]
 split
 · simp[Fo.len] at hl
 · rfl
theorem kJ(hw:h.tx=[114,101,99])(hl:l.len≠2):CC n t (.cons h hk l)=.error (t.ln,t.co):=by
 unfold CC;refine H9 ?_;rw[if_neg (by rw[hw];decide),if_neg (by rw[hw];decide),if_neg (by rw[hw];decide),if_pos (by rw[hw];decide)]
 split
 · simp[Fo.len] at hl
 · rfl
theorem sH(hw:h.tx=[100,111])(hl:l.len≠1):CC n t (.cons h hk l)=.error (t.ln,t.co):=by
 unfold CC;refine H9 ?_;rw[if_neg (by rw[hw];decide),if_neg (by rw[hw];decide),if_neg (by rw[hw];decide),if_neg (by rw[hw];decide),if_pos (by rw[hw];decide)]
 split
 · simp[Fo.len] at hl
 · rfl
theorem SK(h1:(h.tx==[100,97,116,97])=false)(h2:(h.tx==[114,111,111,116])=false)(h3:(h.tx==[100,101,102])=false)(h4:(h.tx==[114,101,99])=false)(h5:(h.tx==[100,111])=false):CC n t (.cons h hk l)=.error (t.ln,t.co):=by
 unfold CC;refine H9 ?_;simp only[h1,h2,h3,h4,h5];rfl
end
end Go.SP
namespace Go.SP
open Go.SW Go.RowKit
variable {σ:Bb}{f:Fq}{i o off:Nat}{lo x:Operand}{P:Program}{T e ty:TypeId}{w:World}
theorem EH.toF{b c:Nat}{k:Fo}(h:EH w f (some ⟨b,o,none⟩) i k)(hc:k.len≤c):DH w f k (some ⟨b,o+i*6,none⟩) c:=⟨hc,h.imp id λ⟨_,_,h1,h2⟩=>⟨b,o+i*6,rfl,by cases h1;exact h2⟩⟩
theorem Yf{k len b c:Nat}(m:Nat)(hl:len=m+2)(hx:ev σ x=some (.slice (some ⟨b,off,none⟩) len c))(hlo:ev σ lo=some (.int .i64 2))(hc:c≠2)(hs:Ip P T=some (e,k)):AG P σ (.slice T x (some lo) none none) ty w (.slice (some ⟨b,off+2*k,none⟩) m (c-2)) w:=by
 subst hl;exact XD hx hlo hs hc
section
variable{bk q vk:Fo}{v:AK}{vs:Nd}
theorem ZZ(h:BW bk=match BW (.cons v vk q) with|none=>none|some x=>some (vs.app x))(hv:v.isTypeVar=true):BW bk=match BW q with|none=>none|some x=>some ((vs.app (Az v 31 v.tx .nil).one).app x):=by
 rw[h]
 cases hq:BW q with
 |none=>rw[QK hq]
 |some x=>rw[TU hv hq];simp only[Nd.app_assoc];rfl
theorem kM(h:BW bk=match BW (.cons v vk q) with|none=>none|some x=>some (vs.app x))(hv:v.isTypeVar=false):BW bk=none:=by rw[h,SG hv]
theorem ZI:BW bk=match BW bk with|none=>none|some x=>some (Nd.nil.app x):=by cases BW bk <;> rfl
theorem jN(h:BW bk=match BW .nil with|none=>none|some x=>some (vs.app x)):BW bk=some vs:=by rw[h];show some (vs.app .nil)=_;rw[Nd.app_nil]
end
end Go.SP
namespace Go.Proofs.YtelmolopaolbcaaGreatDoor
open Go.SW Go.SP Go.RowKit Go.Proofs.Tryz
theorem WI(n:Nat)(ih:fX prog 134 n)(w:World)(f:Fq)(hv:Vl w f)(m:Nat)(seen:List lU)(hS:J9 m seen w f)(hf:f m=0)(hnd:seen.Nodup)(op ln co nm:Int)(tx:lU)(kids:Nd)(na:Option Addr)(nc:Nat)(hm:kids.size<n+1)(hok:kids.len≤100000∧kids.ok)(hN:AD w f kids na nc) :
  Bo prog 134 #[.agg #[iV op,iV ln,iV co,S tx,iV nm,.slice na kids.len nc],.map (some m)] w (JG (α:=List lU) (λ_=>.bool (BH seen (.cons op ln co tx nm kids .nil)).isSome) (λs=>(∀s',BH seen (.cons op ln co tx nm kids .nil)=some s'→s'=s)∧s.Nodup) (λb=>b=m) (λ_ b=>b=m) (λs=>J9 m s) (λ_=>[]) w f):=by
 have hkl:=hok.1;refine Ch (X:=⟨λb=>b=m,λb=>b=m,J9 m seen,w,f⟩) (H:=[]) (R:=[]) (B:=[]) (Fs:=[λw f=>AD w f kids na nc]) (f:=f) func134 rfl rfl rfl (Rx (M:=λb=>b=m) hv hS Jc (λb hb=>by subst hb;exact⟨BE.lt hS,hf⟩) ⟨hN,tQ⟩ ⟨AD.mono,tQ⟩)<|Aa 14 [0] (λb1=>y<|λ_=>AJ 9 rfl rfl (λh1=>?_) (λh1=>?_));refine Aa 7 [0] (y<|λ_=>CW rfl rfl (λw f hM=>Lr (K:=BI) (a:=tx) rfl rfl Vp FD aR hM.res (lP hnd) (uQ tx seen))<|Aa 2 [] (λ_=>AJ 13 rfl rfl (λh2=>?_) (λh2=>?_)));refine Aa 9 [] (λ_=>?_);have h9:=Z9 (ln:=ln) (co:=co) (nm:=nm) (k:=kids) h1 h2;exact AL (C4 rfl rfl) (λw f hM=>⟨seen,f,(by rw[h9];rfl),⟨(λs' h=>by rw[h9] at h;cases h <;> rfl),hnd⟩,hM.exm,(λb h=>.inl h),hM.res,tQ⟩);refine Aa 7 [0] (y<|λ_=>Xr (K:=BI) (a:=tx) (l:=L4 seen) (I':=J9 m (tx::seen)) rfl rfl rfl rfl Vp FD rfl (lP hnd) (tO h2) (λw f h=>h) (λw f w2 h hM hC hm=>hm) Jc<|Aa 12 [0] (y<|λ_=>?_));refine Fp (α:=Nat×Nd×List lU) (λx=>x.2.1.len) (λx=>x.1+x.2.1.len=kids.len∧BH (tx::seen) kids=BH x.2.2 x.2.1∧x.2.2.Nodup∧x.2.1.ok∧x.2.1.size≤kids.size) (λx=>(E4 1 (.map (some m)) 18 (.slice na kids.len nc) 19 (iV (kids.len:Int)) 20 (iV (x.1:Int)))) (λx=>⟨λb=>b=m,λb=>b=m,J9 m x.2.2,w,f⟩) (λx=>[]) (λx=>[]) (λx=>[]) (λx=>[λw f=>AT w f na x.1 x.2.1]) (0,kids,(tx::seen)) ⟨Nat.zero_add _,rfl,(List.nodup_cons.2 ⟨by simpa using h2,hnd⟩),hok.2,Nat.le_refl _⟩ lE (λw f hM=>hM.more (B':=[]) (F':=[λw f=>AT w f na 0 kids]) nE (AE.mem ⟨AD.at hM.f0,tQ⟩) (Ax.mem ⟨AT.mono,tQ⟩) |>.less (.cons _ sR) sR nE (mR [0])) ?_;rintro⟨i,r,s⟩ ⟨hi,hk,hsn,hro,hrs⟩;dsimp only at hi hk hsn hro hrs ⊢;refine Aa 6 [] (λ_=>AJ 21 rfl rfl (λh3=>?_) (λh3=>?_));refine Aa 6 [] (λ_=>?_);have hil:i<kids.len:=by have:=of_decide_eq_true h3;omega
 obtain⟨op2,ln2,co2,tx2,nm2,k2,r,rfl⟩:=Nd.cases1 r oM;have hi2:i+(r.len+1)=kids.len:=hi;refine HF 0 rfl ?_;rintro⟨eb,eo,ka,kc⟩ rfl;refine Aa 11 [100,0,0,0] (aI oM<|y2<|λb2=>y<|y<|λ_=>Ud (α:=List lU) (XX:=λ_ _=>False) rfl rfl (eC OY rfl rfl) (λw f hM=>(ih w f hM.vl m s hM.res (hM.mi m rfl).2.1 hsn op2 ln2 co2 nm2 tx2 k2 ka kc (by have h9:(Nd.cons op2 ln2 co2 tx2 nm2 k2 r).size≤kids.size:=hrs;simp only[Nd.size] at h9;omega) ⟨hro.1,hro.2.1⟩ hM.f0).retP) (λ_=>Jc) (λ_=>trivial) (λ_ _ _ _ _ h=>h.elim) ?_);rintro s2 ⟨hs2,hsn2⟩;refine Aa 3 [] (λ_=>AJ 27 rfl rfl (λh4=>?_) (λh4=>?_));replace h4:=EU h4;refine Aa 9 [] (λ_=>UF<|Aa 2 [] (λ_=>?_));have h9:=(RM (ln:=ln) (co:=co) (nm:=nm) (k:=kids) h1 h2).trans (QE hk h4);exact AL (C4 rfl rfl) (λw f hM=>⟨s2,f,(by rw[h9];rfl),⟨(λs' h=>by rw[h9] at h;cases h <;> rfl),hsn2⟩,hM.exm,(λb h=>.inl h),hM.res,tQ⟩);replace h4:=Fj h4;exact Aa 8 [] (aI ⟨oM,oM⟩<|λ_=>CX ((i+1,r,s2)) (show r.len<r.len+1 from Nat.lt_succ_self _) ⟨show i+1+r.len=_ by omega,On hk h4 hs2,hsn2,hro.2.2,show r.size≤kids.size by have h9:(Nd.cons op2 ln2 co2 tx2 nm2 k2 r).size≤kids.size:=hrs;simp only[Nd.size] at h9;omega⟩ lE (λw f hM=>⟨_,hM.less (.cons _ sR) sR nE (mR [1])⟩));refine Aa 3 [] (λ_=>ES<|Aa 8 [] (λ_=>?_));obtain rfl:r=.nil:=Nd.len0 (by have:=of_decide_eq_false h3;omega);have h9:=(RM (ln:=ln) (co:=co) (nm:=nm) (k:=kids) h1 h2).trans (hk.trans (show BH s .nil=some s from rfl));exact AL (C4 rfl rfl) (λw f hM=>⟨s,f,(by rw[h9];rfl),⟨(λs' h=>by rw[h9] at h;cases h <;> rfl),hsn⟩,hM.exm,(λb h=>.inl h),hM.res,tQ⟩);refine Aa 13 [0] (y<|λ_=>?_);refine Fp (α:=Nat×Nd×List lU) (λx=>x.2.1.len) (λx=>x.1+x.2.1.len=kids.len∧BH seen kids=BH x.2.2 x.2.1∧x.2.2.Nodup∧x.2.1.ok∧x.2.1.size≤kids.size) (λx=>(E4 1 (.map (some m)) 18 (.slice na kids.len nc) 19 (iV (kids.len:Int)) 20 (iV (x.1:Int)))) (λx=>⟨λb=>b=m,λb=>b=m,J9 m x.2.2,w,f⟩) (λx=>[]) (λx=>[]) (λx=>[]) (λx=>[λw f=>AT w f na x.1 x.2.1]) (0,kids,seen) ⟨Nat.zero_add _,rfl,hnd,hok.2,Nat.le_refl _⟩ lE (λw f hM=>hM.more (B':=[]) (F':=[λw f=>AT w f na 0 kids]) nE (AE.mem ⟨AD.at hM.f0,tQ⟩) (Ax.mem ⟨AT.mono,tQ⟩) |>.less (.cons _ sR) sR nE (mR [0])) ?_;rintro⟨i,r,s⟩ ⟨hi,hk,hsn,hro,hrs⟩;dsimp only at hi hk hsn hro hrs ⊢;refine Aa 6 [] (λ_=>AJ 21 rfl rfl (λh5=>?_) (λh5=>?_));refine Aa 6 [] (λ_=>?_);have hil:i<kids.len:=by have:=of_decide_eq_true h5;omega
 obtain⟨op2,ln2,co2,tx2,nm2,k2,r,rfl⟩:=Nd.cases1 r oM;have hi2:i+(r.len+1)=kids.len:=hi;refine HF 0 rfl ?_;rintro⟨eb,eo,ka,kc⟩ rfl;refine Aa 11 [100,0,0,0] (aI oM<|y2<|λb3=>y<|y<|λ_=>Ud (α:=List lU) (XX:=λ_ _=>False) rfl rfl (eC OY rfl rfl) (λw f hM=>(ih w f hM.vl m s hM.res (hM.mi m rfl).2.1 hsn op2 ln2 co2 nm2 tx2 k2 ka kc (by have h9:(Nd.cons op2 ln2 co2 tx2 nm2 k2 r).size≤kids.size:=hrs;simp only[Nd.size] at h9;omega) ⟨hro.1,hro.2.1⟩ hM.f0).retP) (λ_=>Jc) (λ_=>trivial) (λ_ _ _ _ _ h=>h.elim) ?_);rintro s2 ⟨hs2,hsn2⟩;refine Aa 3 [] (λ_=>AJ 27 rfl rfl (λh6=>?_) (λh6=>?_));replace h6:=EU h6;refine Aa 9 [] (λ_=>UF<|Aa 2 [] (λ_=>?_));have h9:=(Uv (ln:=ln) (co:=co) (nm:=nm) (tx:=tx) (k:=kids) h1).trans (QE hk h6);exact AL (C4 rfl rfl) (λw f hM=>⟨s2,f,(by rw[h9];rfl),⟨(λs' h=>by rw[h9] at h;cases h <;> rfl),hsn2⟩,hM.exm,(λb h=>.inl h),hM.res,tQ⟩);replace h6:=Fj h6;exact Aa 8 [] (aI ⟨oM,oM⟩<|λ_=>CX ((i+1,r,s2)) (show r.len<r.len+1 from Nat.lt_succ_self _) ⟨show i+1+r.len=_ by omega,On hk h6 hs2,hsn2,hro.2.2,show r.size≤kids.size by have h9:(Nd.cons op2 ln2 co2 tx2 nm2 k2 r).size≤kids.size:=hrs;simp only[Nd.size] at h9;omega⟩ lE (λw f hM=>⟨_,hM.less (.cons _ sR) sR nE (mR [1])⟩));refine Aa 3 [] (λ_=>ES<|Aa 8 [] (λ_=>?_));obtain rfl:r=.nil:=Nd.len0 (by have:=of_decide_eq_false h5;omega);have h9:=(Uv (ln:=ln) (co:=co) (nm:=nm) (tx:=tx) (k:=kids) h1).trans (hk.trans (show BH s .nil=some s from rfl));exact AL (C4 rfl rfl) (λw f hM=>⟨s,f,(by rw[h9];rfl),⟨(λs' h=>by rw[h9] at h;cases h <;> rfl),hsn⟩,hM.exm,(λb h=>.inl h),hM.res,tQ⟩)
theorem OL:∀n,fX prog 134 n
 |0=>λw f hv m seen h1 h2 h3 op ln co nm tx kids na nc h=>by omega
 |n+1=>λw f hv m seen h1 h2 h3 op ln co nm tx kids na nc h4 h5 h6=>WI n (OL n) w f hv m seen h1 h2 h3 op ln co nm tx kids na nc h4 h5 h6
theorem W2(n:Nat)(ihx:∀ (w:World) (f:Fq) (_:Vl w f) (_:Db w f) (t:AK) (k:Fo) (a:Option Addr) (c:Nat),Gp n t k→DH w f k a c→BB prog 49 #[fV t a k.len c] w (Hy (Cb (n+1) t k) w f) (HT 61 (Cb (n+1) t k) w f))(w:World)(f:Fq)(hv:Vl w f)(hJ:Db w f)(t:AK)(k:Fo)(ka:Option Addr)(kc:Nat)(hp:Gp n t k)(hL:DH w f k ka kc) :
  BB prog 111 #[fV t ka k.len kc] w (Hy (GX (n+1) (Cb (n+1)) t k) w f) (HT 61 (GX (n+1) (Cb (n+1)) t k) w f):=by
 refine Mr (X:=X0 w f) (H:=[]) (R:=[]) (B:=[]) (Fs:=[λw f=>DH w f k ka kc,λw f=>Db w f]) (f:=f) func111 rfl rfl rfl (BR hv ⟨hL,hJ,tQ⟩ ⟨DH.mono,Db.mono,tQ⟩)<|Aa 7 [] (λb1=>λb2=>λ_=>?_);have hall:=cO hp;rcases Fo.two k with ⟨p,pk,b,bk,rfl⟩|hne
 refine P4 0 rfl<|MM 0 rfl ?_;rintro⟨eb0,eo0,k0a,k0c⟩ rfl;refine WT 1 rfl ?_;rintro⟨k1a,k1c⟩;refine C3 [0,1] Am (.rd 0 (.rd 1 (.br 2 (rd [3,4,5,6,7,8] (.br 9 .fin .fin)) .fin))) rfl kR<|A2 2 [1,1] (y<|y<|λ_=>Ag rfl ?_ Aj);refine CN rfl rfl (eC GM rfl rfl) (λw f hM=>Co _ t _)<|Aa 1 [] (λ_=>Au [0,1] rfl<|A2 1 [] (λ_=>Jm 7 rfl (λh1=>?_) (λh1=>?_)));refine A2 5 [1] (y<|λ_=>Ag rfl ?_ Aj);refine AX rfl rfl (eC AB rfl rfl) (λw2 f2 he hE=>⟨rfl,_,f2,rfl,(by simp[Fo.len] at he),hE⟩) λhn1=>Aa 1 [] (λ_=>Au [0,1] rfl<|Bk<|Aa 7 [1,101,0] (y<|aI (by simp only[Fo.len];omega)<|y2<|λ_=>?_));refine J0 rfl rfl (eC Pp rfl rfl) (λw f hM=>Ox n w f hM.vl hM.f6 p pk _ _ hall.1 hM.f2) (λ_=>⟨AD.mono,tQ⟩) (λe w2 f2 he hE=>⟨rfl,e,f2,rfl,(by simp[GX,SP.need,Az,he,h1,hn1]),hE⟩) ?_;rintro⟨nd1,and1,cnd1⟩ hnd1;dsimp only at hnd1 ⊢;refine Aa 5 [0] (λb3=>y<|λ_=>C3 [0,1,2] Am (rd [0,1,2,3,4] (.br 5 (.br 6 (.br 7 .fin .fin) .fin) .fin)) rfl kR<|A2 5 [2,101,0,0] (y<|aI (by simp only[Fo.len];omega)<|y2<|y<|λ_=>Ag rfl ?_ Aj));refine sS (K:=BI) rfl rfl λm=>Aa 1 [] (λ_=>Au [0,1,2] rfl<|Ag rfl ?_ Aj);refine Ud (α:=List lU) (val:=λ_=>.bool (BH [] nd1.one).isSome) (q:=λ_=>True) (MI':=λ_ b=>b=m) (I':=λs=>J9 m s) (F':=λ_=>[]) (XX:=λ_ _=>False) rfl rfl (eC OY rfl rfl) (λw f hM=>((OL (nd1.kids.size+1) w f hM.vl m [] hM.res.2 (hM.mi m (.inr rfl)).2.1 List.nodup_nil nd1.op nd1.ln nd1.co nd1.nm nd1.tx nd1.kids and1 cnd1 (Nat.lt_succ_self _) (ZH n p pk nd1 hall.1 hnd1) hM.f0).mono λv w2 ⟨x,f2,h1,h2,h3,h4,h5,h6⟩=>⟨x,f2,h1,tQ,h3.mono (λb hb=>.inr hb),(λb hb=>(h4 b hb).imp .inr id),h5,h6⟩).retP) (λ_=>Jc) (λ_=>trivial) (λ_ _ _ _ _ h=>h.elim) ?_;rintro s1 -;refine Aa 1 [] (λ_=>Au [0,1,2] rfl<|Ag rfl ?_ Aj);refine AX rfl rfl (eC AB rfl rfl) (λw2 f2 he hE=>⟨rfl,_,f2,rfl,(by simp[GX,SP.need,Az,he,h1,hn1,hnd1]),hE⟩) λhn2=>Aa 1 [] (λ_=>Au [0,1,2] rfl<|Bk<|Aa 2 [] (λ_=>C3 [0,2] Am (rd [0,1,2,3,4,5] (.br 6 (.br 7 (.br 8 (.br 9 .fin .fin) .fin) .fin) .fin)) rfl kR<|A2 6 [1,0,1,100,0] (y<|y<|y<|aI (by simp only[Fo.len];omega)<|y2<|λ_=>Ag rfl ?_ Aj)));refine J0 rfl rfl (eC Dh rfl rfl) (λw f hM=>ihx w f hM.vl hM.f7 b bk _ _ hall.2.1 hM.f1) (λ_=>⟨AD.mono,tQ⟩) (λe w2 f2 he hE=>⟨rfl,e,f2,rfl,(by simp[GX,SP.need,Az,he,h1,hn1,hn2,hnd1]),hE⟩) ?_;rintro⟨nd2,and2,cnd2⟩ hnd2;dsimp only at hnd2 ⊢;refine Aa 1 [] (λ_=>Au [0,2] rfl<|Ag rfl ?_ Aj);refine Aa 2 [] (λb4=>λ_=>Au [1,3] rfl<|Ag rfl ?_ Aj);refine CG 0 rfl rfl<|Dl (λw f=>AD w f (nd1.cons (nd2.one)) (some ⟨b4,0,none⟩) 2) (λw f hM=>BU.toF (BU.cons' hM.f1 (BU.cons' hM.f0 (show BU _ _ .nil [] from rfl))) hM.b0 (Nat.le_refl _)) AD.mono<|CN rfl rfl (eC Bf rfl rfl) (λw f hM=>A8 _ t _ _ _ _ _ _)<|Aa 1 [] (λ_=>AW [0,2] EE rfl (λ_ h=>.tail _ h)<|Ag rfl ?_ Aj)
 exact Aa 2 [1] (y<|λ_=>AW [0,2] EE rfl (λ_ h=>.tail _ h)<|Bk<|Aa 2 [] (λ_=>AL (λw f hM=>A9 rfl (Ac rfl B4 hM.k1 rfl)) (λw f hM=>⟨(⟨18,t.ln,t.co,[],0,(nd1.cons (nd2.one))⟩,(some ⟨b4,0,none⟩),2),f,rfl,(by simp[GX,SP.need,Az,h1,hn1,hn2,hnd1,hnd2]),hM.exm,⟨hM.f0,tQ⟩⟩)));refine A2 5 [] (λ_=>Ag rfl ?_ Aj);refine AX rfl rfl (eC AB rfl rfl) (λw2 f2 he hE=>⟨rfl,_,f2,rfl,(by simp[GX,SP.need,h1]),hE⟩) λhn3=>?_
 cases hn3
 refine C3 [0,1] Am (.rd 0 (.rd 1 (.br 2 (rd [3,4,5,6,7,8] (.br 9 .fin .fin)) .fin))) rfl kR<|A2 2 [1,1] (y<|y<|λ_=>Ag rfl ?_ Aj);refine CN rfl rfl (eC GM rfl rfl) (λw f hM=>Co _ t _)<|Aa 1 [] (λ_=>Au [0,1] rfl<|A2 1 [] (λ_=>Jm 7 rfl (λh2=>?_) (λh2=>?_)));refine A2 5 [1] (y<|λ_=>Ag rfl ?_ Aj);exact AX rfl rfl (eC AB rfl rfl) (λw2 f2 he hE=>⟨rfl,_,f2,rfl,(by exact U4 hne),hE⟩) λhn4=>absurd (by simp at hn4;omega) hne;refine A2 5 [] (λ_=>Ag rfl ?_ Aj);refine AX rfl rfl (eC AB rfl rfl) (λw2 f2 he hE=>⟨rfl,_,f2,rfl,(by exact U4 hne),hE⟩) λhn5=>?_
 cases hn5
theorem Lt:∀n,∀(w:World)(f:Fq)(_:Vl w f)(_:Db w f)(t:AK)(k:Fo)(a:Option Addr)(c:Nat),Gp n t k→DH w f k a c→BB prog 49 #[fV t a k.len c] w (Hy (Cb (n+1) t k) w f) (HT 61 (Cb (n+1) t k) w f)
 |0=>QV 0 (λ_ hq=>by cases hq) (λ_ hq=>by cases hq)
 |n+1=>QV (n+1) (λn' h=>by cases h;exact Lt n) (λn' h=>by cases h;exact W2 n (Lt n))
theorem Rb(n:Nat)(ih:∀n',n=n'+1→∀ (w:World) (f:Fq) (_:Vl w f) (_:Db w f) (t:AK) (k:Fo) (a:Option Addr) (c:Nat),Gp n' t k→DH w f k a c→BB prog 48 #[fV t a k.len c] w (Hy (Dy (n'+1) t k) w f) (HT 61 (Dy (n'+1) t k) w f))(w:World)(f:Fq)(hv:Vl w f)(hJ:Db w f)(t:AK)(k:Fo)(ka:Option Addr)(kc:Nat)(hp:Gp n t k)(hL:DH w f k ka kc) :
  BB prog 48 #[fV t ka k.len kc] w (Hy (Dy (n+1) t k) w f) (HT 61 (Dy (n+1) t k) w f):=by
 refine Mr (X:=X0 w f) (H:=[]) (R:=[]) (B:=[]) (Fs:=[λw f=>DH w f k ka kc,λw f=>Db w f]) (f:=f) func48 rfl rfl rfl (BR hv ⟨hL,hJ,tQ⟩ ⟨DH.mono,Db.mono,tQ⟩)<|Aa 10 [1] (λb1=>λb2=>y<|λ_=>CN rfl rfl (eC GM rfl rfl) (λw f hM=>Co _ t _)<|Aa 3 [] (λ_=>AJ 11 rfl rfl (λh1=>?_) (λh1=>?_)));replace h1:=EU h1;refine Aa 5 [1] (y<|λ_=>CN rfl rfl (eC Y7 rfl rfl) (λw f hM=>IH _ t _ hp.1.1)<|Aa 2 [] (λ_=>AJ 13 rfl rfl (λh2=>?_) (λh2=>?_)));exact Aa 7 [1,1] (y<|y<|λ_=>CN rfl rfl (eC Bf rfl rfl) (λw f hM=>A8 _ t _ _ _ _ _ _)<|Aa 6 [0] (y<|λ_=>AL (λw f hM=>A9 rfl (Ac rfl B4 hM.k0 rfl)) (λw f hM=>⟨(⟨31,t.ln,t.co,t.tx,0,.nil⟩,none,0),f,rfl,(by unfold Dy;simp[SP.need,Az,h1,h2]),hM.exm,⟨⟨Nat.zero_le _,.inl rfl⟩,tQ⟩⟩)));refine Aa 4 [] (λ_=>C3 [0,1] Am (.rd 0 (.rd 1 (.br 2 (.br 3 .fin .fin) .fin))) rfl kR<|A2 2 [1,1] (y<|y<|λ_=>Ag rfl ?_ Aj));refine CN rfl rfl (eC SF rfl rfl) (λw f hM=>FQ _ (Db.gl hM.f1) t _ hp.1.1 hp.1.2)<|Aa 1 [] (λ_=>Au [0,1] rfl<|Ag rfl ?_ Aj);exact AX rfl rfl (eC AB rfl rfl) (λw2 f2 he hE=>⟨rfl,_,f2,rfl,(by unfold Dy;simp[SP.need,Az,he,h1,h2]),hE⟩) λhn1=>Aa 1 [] (λ_=>Au [0,1] rfl<|Bk<|Aa 7 [1,1] (y<|y<|λ_=>CN rfl rfl (eC Bf rfl rfl) (λw f hM=>A8 _ t _ _ _ _ _ _)<|Aa 5 [0] (y<|λ_=>AL (λw f hM=>A9 rfl (Ac rfl B4 hM.k0 rfl)) (λw f hM=>⟨(⟨32,t.ln,t.co,t.tx,0,.nil⟩,none,0),f,rfl,(by unfold Dy;simp[SP.need,Az,h1,h2,hn1]),hM.exm,⟨⟨Nat.zero_le _,.inl rfl⟩,tQ⟩⟩))));replace h1:=Fj h1;refine Aa 10 [1,1] (y<|y<|λ_=>AX rfl rfl (eC AB rfl rfl) (λw2 f2 he hE=>⟨rfl,_,f2,rfl,(by obtain rfl:k=.nil:=Fo.len0 (by have:=of_decide_eq_false he;omega);unfold Dy;simp[h1]),hE⟩) λhn2=>Aa 3 [] (λ_=>?_));obtain⟨h,hk,r,rfl⟩:=Fo.cases1 k (by have:=of_decide_eq_true hn2;omega);have hp0:=hp;obtain⟨hto,hko,hkl,hdp⟩:=hp;have hkl2:r.len+1≤100000:=hkl;obtain⟨n,rfl⟩:∃q,n=q+1:=by cases n with|zero=>exact absurd hdp (by simp[Fo.deep])|succ q=>exact⟨q,rfl⟩
 refine jX 0 rfl<|P4 1 rfl<|MM 0 rfl ?_;rintro⟨eb,eo,hka,hkc⟩ rfl;refine C3 [0,1] Am (rd [0,1,2,3,4,5,6] (.br 7 (.br 8 (.rd 9 .fin) .fin) .fin)) rfl kR<|A2 6 [1,100,0,1] (y<|aI (by first|(simp only[Fo.len];omega)|(dsimp only;omega)|omega)<|y2<|y<|λ_=>Gn rfl rfl rfl (λw hK=>GI rfl rfl rfl Ku)<|Ag rfl ?_ Aj);refine Aa 2 [] (λb3=>λ_=>Au [1,2] rfl<|Ag rfl ?_ Aj);refine Aa 2 [0] (y<|λ_=>Au [1,2] rfl<|A2 1 [] (λ_=>Bk<|Aa 13 [0] (y<|λ_=>CN rfl rfl (eC JT rfl rfl) (λw f hM=>Dm _ h _ _)<|Aa 3 [] (λ_=>AJ 51 rfl rfl (λh3=>?_) (λh3=>?_)))));refine Aa 6 [2] (y<|λ_=>AX rfl rfl (eC AB rfl rfl) (λw2 f2 he hE=>⟨rfl,_,f2,rfl,(by unfold Dy;simp[SP.need,Az,he,h1,hn2,h3]),hE⟩) λhn3=>Aa 5 [] (λ_=>?_));refine J0 rfl rfl (eC CV rfl rfl) (λw f hM=>BM 48 JX (Dy (n+1)) (Gp n) (λw f hv hJ t k a c hd hT=>ih n rfl w f hv hJ t k a c hd hT) w f hM.vl hM.f5 r _ _ (De hp0).2 oM hM.f3) (λ_=>⟨AD.mono,tQ⟩) (λe w2 f2 he hE=>⟨rfl,e,f2,rfl,(by unfold Dy;simp[SP.need,Az,he,h1,hn2,h3,hn3]),hE⟩) ?_;rintro⟨⟨nds1,xnds1⟩,ands1,cnds1⟩ hnds1;dsimp only at hnds1 ⊢;refine Aa 4 [] (λ_=>?_);have hnl:=DI hnds1;have hge:2≤r.len:=by have:=of_decide_eq_true hn3;omega
 obtain⟨q,hq⟩:=Nd.getN (r.len-1) nds1 oM;refine KP (α:=Nat×Nat×Option Addr×Nat) (λx=>ands1=some ⟨x.1,x.2.1,none⟩) (λx=>[⟨x.1,x.2.1+((r.len:Int)-1).toNat*6,Kc q.op q.ln q.co q.tx q.nm x.2.2.1 q.kids.len x.2.2.2⟩]) (λx=>[λw f=>AD w f q.kids x.2.2.1 x.2.2.2]) (λw f hM=>let ⟨b,off,ka,kc,h1,h2,h3⟩:=AD.elem hM.f0 hq;⟨(b,off,ka,kc),h1,(λe he=>by cases he with|head=>(rw[show ((r.len:Int)-1).toNat=r.len-1 by omega];exact h2)|tail _ h=>cases h),AE.mem ⟨h3,tQ⟩⟩) (λx=>Ax.mem ⟨AD.mono,tQ⟩) ?_;rintro⟨eb5,eo5,qa,qc⟩ rfl;refine Aa 19 [100,0,0] (aI ⟨oM,oM⟩<|aI (by first|(simp only[Fo.len];omega)|(dsimp only;omega)|omega)<|y2<|λb4=>y<|aI ⟨oM,oM⟩<|λ_=>?_);refine Fp (α:=Nat×N×Option Addr×Nat) (λx=>x.1) (λx=>x.1+1≤nds1.len∧FL t (nds1.drop x.1)=some x.2.1) (λx=>(E5 1 (pB b1) 2 (pB b2) 6 (.slice (some (⟨eb5,eo5,none⟩:Addr)) nds1.len cnds1) 7 (pB b4) 8 (iV ((x.1:Int)-1)))) (λx=>X0 w f) (λx=>[⟨b4,[iV x.2.1.op,iV x.2.1.ln,iV x.2.1.co,S x.2.1.tx,iV x.2.1.nm,.slice x.2.2.1 x.2.1.kids.len x.2.2.2],74,true⟩,⟨b2,zN,74,true⟩,⟨b1,[iV t.k,iV t.ln,iV t.co,iV t.nm,S t.tx,.slice (some (⟨eb,eo,none⟩:Addr)) (Fo.cons h hk r).len kc],110,true⟩]) (λx=>[]) (λx=>[]) (λx=>[λw f=>AD w f nds1 (some (⟨eb5,eo5,none⟩:Addr)) cnds1,λw f=>AD w f x.2.1.kids x.2.2.1 x.2.2.2]) (r.len-1,q,qa,qc) ⟨show r.len-1+1≤nds1.len by omega,QM hq oM⟩ (nT rfl rfl rfl rfl (Eq.trans (b:=some (Value.int .i64 ((r.len:Int)-2))) rfl (by dsimp only;rw[show ((r.len:Int)-2)=((r.len-1:Nat):Int)-1 by omega]))) (λw f hM=>hM.less (sK (sD (sK (sK sZ)))) sR nE (mR [1,0])) ?_;rintro⟨j,o,oa,oc⟩ ⟨hj,har⟩;dsimp only at hj har ⊢;refine Aa 7 [] (λ_=>AJ 68 rfl rfl (λh4=>?_) (λh4=>?_));refine Aa 5 [] (λ_=>?_);obtain⟨j,rfl⟩:∃q,j=q+1:=⟨j-1,by have:=of_decide_eq_true h4;omega⟩;obtain⟨q2,hq2⟩:=Nd.getN j nds1 oM;refine KP (α:=Nat×Nat×Option Addr×Nat) (λx=>(some (⟨eb5,eo5,none⟩:Addr))=some ⟨x.1,x.2.1,none⟩) (λx=>[⟨x.1,x.2.1+(((j+1:Nat):Int)-1).toNat*6,Kc q2.op q2.ln q2.co q2.tx q2.nm x.2.2.1 q2.kids.len x.2.2.2⟩]) (λx=>[λw f=>AD w f q2.kids x.2.2.1 x.2.2.2]) (λw f hM=>let ⟨b,off,ka,kc,h1,h2,h3⟩:=AD.elem hM.f0 hq2;⟨(b,off,ka,kc),h1,(λe he=>by cases he with|head=>(rw[show (((j+1:Nat):Int)-1).toNat=j by omega];exact h2)|tail _ h=>cases h),AE.mem ⟨h3,tQ⟩⟩) (λx=>Ax.mem ⟨AD.mono,tQ⟩) ?_;rintro⟨eb6,eo6,qa2,qc2⟩ h44;obtain⟨rfl,rfl⟩:eb5=eb6∧eo5=eo6:=by cases h44;exact⟨rfl,rfl⟩
 refine C3 [1,2] Am (rd [0,1,2,3,4] (.br 5 (.br 6 (.br 7 (.br 8 .fin .fin) .fin) .fin) .fin)) rfl kR<|A2 5 [1,100,0] (y<|aI (by first|(simp only[Fo.len];omega)|(dsimp only;omega)|omega)<|y2<|λ_=>Ag rfl ?_ Aj);refine Aa 2 [0] (y<|λ_=>Au [1,2] rfl<|Ag rfl ?_ Aj);refine Aa 2 [] (λb5=>λ_=>Au [2,3] rfl<|Ag rfl ?_ Aj);refine CG 0 rfl rfl<|Dl (λw f=>AD w f (q2.cons (o.one)) (some ⟨b5,0,none⟩) 2) (λw f hM=>BU.toF (BU.cons' hM.f0 (BU.cons' hM.f2 (show BU _ _ .nil [] from rfl))) hM.b0 (Nat.le_refl _)) AD.mono<|CN rfl rfl (eC Bf rfl rfl) (λw f hM=>A8 _ t _ _ _ _ _ _)<|Aa 1 [] (λ_=>AW [1,2] EE rfl (λ_ h=>.tail _ h)<|Ag rfl ?_ Aj);exact Aa 2 [0] (y<|λ_=>AW [1,2] EE rfl (λ_ h=>.tail _ h)<|Bk<|Aa 7 [] (aI ⟨oM,oM⟩<|λ_=>CX ((j,Az t 32 [45,62] (q2.cons o.one),(some ⟨b5,0,none⟩),2)) (Nat.lt_succ_self _) ⟨show j+1≤nds1.len by omega,QH hq2 har⟩ (nT rfl rfl rfl rfl (Eq.trans (b:=some (Value.int .i64 ((((j+1:Nat):Int)-1)-1))) rfl (by dsimp only;rw[show ((((j+1:Nat):Int)-1)-1)=(j:Int)-1 by omega]))) (λw f hM=>⟨_,hM.less (sK (sK (sK sZ))) sR nE (mR [2,0])⟩)));refine Aa 3 [] (λ_=>ES<|Aa 11 [0,1] (y<|y<|λ_=>?_));obtain rfl:j=0:=by have:=of_decide_eq_false h4;omega
 have har2:FL t nds1=some o:=har;exact AL (λw f hM=>A9 rfl (Ac rfl B4 hM.k1 rfl)) (λw f hM=>⟨(o,oa,oc),f,rfl,(by unfold Dy;simp[SP.need,h1,hn2,h3,hn3,hnds1,har2]),hM.exm,⟨hM.f1,tQ⟩⟩);refine Aa 4 [0] (y<|λ_=>CN rfl rfl (eC JT rfl rfl) (λw f hM=>Dm _ h _ _)<|Aa 3 [] (λ_=>AJ 80 rfl rfl (λh5=>?_) (λh5=>?_)));refine Aa 1 [] (λ_=>C3 [0,1,2] Am (.rd 0 (.rd 1 (.br 2 (.br 3 .fin .fin) .fin))) rfl kR<|A2 2 [2] (y<|λ_=>Ag rfl ?_ Aj));refine CN rfl rfl (eC HR rfl rfl) (λw f hM=>CO _ _ _ _)<|Aa 1 [] (λ_=>Au [0,1,2] rfl<|Ag rfl ?_ Aj);refine AX rfl rfl (eC AB rfl rfl) (λw2 f2 he hE=>⟨rfl,_,f2,rfl,(by unfold Dy;simp[SP.need,Az,he,h1,hn2,h3,h5]),hE⟩) λhn4=>Aa 1 [] (λ_=>Au [0,1,2] rfl<|Bk<|Aa 3 [] (λ_=>C3 [0,2] Am (rd [0,1,2,3,4] (.br 5 (.br 6 (.br 7 .fin .fin) .fin) .fin)) rfl kR<|A2 5 [1,0] (y<|y<|λ_=>Ag rfl ?_ Aj)));refine J0 rfl rfl (eC CV rfl rfl) (λw f hM=>BM 48 JX (Dy (n+1)) (Gp n) (λw f hv hJ t k a c hd hT=>ih n rfl w f hv hJ t k a c hd hT) w f hM.vl hM.f5 r _ _ (De hp0).2 oM hM.f3) (λ_=>⟨AD.mono,tQ⟩) (λe w2 f2 he hE=>⟨rfl,e,f2,rfl,(by unfold Dy;simp[SP.need,Az,he,h1,hn2,h3,h5,hn4]),hE⟩) ?_;rintro⟨⟨nds3,xnds3⟩,ands3,cnds3⟩ hnds3;dsimp only at hnds3 ⊢;refine Aa 1 [] (λ_=>Au [0,2] rfl<|Ag rfl ?_ Aj);refine CN rfl rfl (eC Bf rfl rfl) (λw f hM=>A8 _ t _ _ _ _ _ _)<|Aa 1 [] (λ_=>Au [0,2] rfl<|Ag rfl ?_ Aj);exact Aa 2 [1] (y<|λ_=>Au [0,2] rfl<|Bk<|Aa 2 [] (λ_=>AL (λw f hM=>A9 rfl (Ac rfl B4 hM.k1 rfl)) (λw f hM=>⟨(⟨32,t.ln,t.co,h.tx,0,nds3⟩,ands3,cnds3),f,rfl,(by unfold Dy;simp[SP.need,Az,h1,hn2,h3,h5,hn4,hnds3]),hM.exm,⟨hM.f0,tQ⟩⟩)));refine Aa 4 [0] (y<|λ_=>CN rfl rfl (eC JT rfl rfl) (λw f hM=>Dm _ h _ _)<|Aa 1 [] (λ_=>AJ 90 rfl rfl (λh6=>?_) (λh6=>?_)));refine Aa 11 [2] (y<|λ_=>AX rfl rfl (eC AB rfl rfl) (λw2 f2 he hE=>⟨rfl,_,f2,rfl,(by unfold Dy;simp[SP.need,Az,he,h1,hn2,h3,h5,h6]),hE⟩) λhn5=>Aa 4 [] (λ_=>C3 [0,2] Am (rd [0,1,2,3,4] (.br 5 (.br 6 (.br 7 .fin .fin) .fin) .fin)) rfl kR<|A2 5 [1,0] (y<|y<|λ_=>Ag rfl ?_ Aj)));refine J0 rfl rfl (eC CV rfl rfl) (λw f hM=>BM 48 JX (Dy (n+1)) (Gp n) (λw f hv hJ t k a c hd hT=>ih n rfl w f hv hJ t k a c hd hT) w f hM.vl hM.f5 r _ _ (De hp0).2 oM hM.f3) (λ_=>⟨AD.mono,tQ⟩) (λe w2 f2 he hE=>⟨rfl,e,f2,rfl,(by unfold Dy;simp[SP.need,Az,he,h1,hn2,h3,h5,h6,hn5]),hE⟩) ?_;rintro⟨⟨nds4,xnds4⟩,ands4,cnds4⟩ hnds4;dsimp only at hnds4 ⊢;refine Aa 1 [] (λ_=>Au [0,2] rfl<|Ag rfl ?_ Aj);refine CN rfl rfl (eC Bf rfl rfl) (λw f hM=>A8 _ t _ _ _ _ _ _)<|Aa 1 [] (λ_=>Au [0,2] rfl<|Ag rfl ?_ Aj);exact Aa 2 [1] (y<|λ_=>Au [0,2] rfl<|Bk<|Aa 2 [] (λ_=>AL (λw f hM=>A9 rfl (Ac rfl B4 hM.k1 rfl)) (λw f hM=>⟨(⟨32,t.ln,t.co,h.tx,0,nds4⟩,ands4,cnds4),f,rfl,(by unfold Dy;simp[SP.need,Az,h1,hn2,h3,h5,h6,hn5,hnds4]),hM.exm,⟨hM.f0,tQ⟩⟩)));refine Aa 1 [0] (y<|λ_=>CN rfl rfl (eC JT rfl rfl) (λw f hM=>Dm _ h _ _)<|Aa 4 [] (λ_=>AJ 87 rfl rfl (λh7=>?_) (λh7=>?_)))
 refine Aa 5 [2] (y<|λ_=>AX rfl rfl (eC AB rfl rfl) (λw2 f2 he hE=>⟨rfl,_,f2,rfl,(by unfold Dy;simp[SP.need,Az,he,h1,hn2,h3,h5,h6,h7]),hE⟩) λhn6=>Aa 4 [] (λ_=>C3 [0,2] Am (rd [0,1,2,3,4] (.br 5 (.br 6 (.br 7 .fin .fin) .fin) .fin)) rfl kR<|A2 5 [1,0] (y<|y<|λ_=>Ag rfl ?_ Aj)));refine J0 rfl rfl (eC CV rfl rfl) (λw f hM=>BM 48 JX (Dy (n+1)) (Gp n) (λw f hv hJ t k a c hd hT=>ih n rfl w f hv hJ t k a c hd hT) w f hM.vl hM.f5 r _ _ (De hp0).2 oM hM.f3) (λ_=>⟨AD.mono,tQ⟩) (λe w2 f2 he hE=>⟨rfl,e,f2,rfl,(by unfold Dy;simp[SP.need,Az,he,h1,hn2,h3,h5,h6,h7,hn6]),hE⟩) ?_;rintro⟨⟨nds5,xnds5⟩,ands5,cnds5⟩ hnds5;dsimp only at hnds5 ⊢;refine Aa 1 [] (λ_=>Au [0,2] rfl<|Ag rfl ?_ Aj);refine CN rfl rfl (eC Bf rfl rfl) (λw f hM=>A8 _ t _ _ _ _ _ _)<|Aa 1 [] (λ_=>Au [0,2] rfl<|Ag rfl ?_ Aj);exact Aa 2 [1] (y<|λ_=>Au [0,2] rfl<|Bk<|Aa 2 [] (λ_=>AL (λw f hM=>A9 rfl (Ac rfl B4 hM.k1 rfl)) (λw f hM=>⟨(⟨32,t.ln,t.co,h.tx,0,nds5⟩,ands5,cnds5),f,rfl,(by unfold Dy;simp[SP.need,Az,h1,hn2,h3,h5,h6,h7,hn6,hnds5]),hM.exm,⟨hM.f0,tQ⟩⟩)));refine Aa 1 [] (λ_=>C3 [0,1,2] Am (.rd 0 (.rd 1 (.br 2 (.rd 3 (.rd 4 (.br 5 (.rd 6 (.br 7 .fin .fin)) .fin))) .fin))) rfl kR<|A2 2 [2,0] (y<|y<|λ_=>Ag rfl ?_ Aj));refine CN rfl rfl (eC SF rfl rfl) (λw f hM=>FQ _ (Db.gl hM.f5) h _ hko.1.1 hko.1.2)<|Aa 1 [] (λ_=>Au [0,1,2] rfl<|A2 1 [] (λ_=>Jm 46 rfl (λh8=>?_) (λh8=>?_)));refine A2 1 [] (λ_=>Ag rfl ?_ Aj);refine CN rfl rfl (eC HR rfl rfl) (λw f hM=>CO _ _ _ _)<|Aa 1 [] (λ_=>Au [0,1,2] rfl<|A2 1 [] (λ_=>Ag rfl ?_ Aj));refine AX rfl rfl (eC AB rfl rfl) (λw2 f2 he hE=>⟨rfl,_,f2,rfl,(by unfold Dy;simp[SP.need,Az,he,h1,hn2,h3,h5,h6,h7,h8]),hE⟩) λhn7=>Aa 1 [] (λ_=>Au [0,1,2] rfl<|Bk<|Aa 3 [] (λ_=>C3 [0,2] Am (rd [0,1,2,3,4] (.br 5 (.br 6 (.br 7 .fin .fin) .fin) .fin)) rfl kR<|A2 5 [1,0] (y<|y<|λ_=>Ag rfl ?_ Aj)));refine J0 rfl rfl (eC CV rfl rfl) (λw f hM=>BM 48 JX (Dy (n+1)) (Gp n) (λw f hv hJ t k a c hd hT=>ih n rfl w f hv hJ t k a c hd hT) w f hM.vl hM.f5 r _ _ (De hp0).2 oM hM.f3) (λ_=>⟨AD.mono,tQ⟩) (λe w2 f2 he hE=>⟨rfl,e,f2,rfl,(by unfold Dy;simp[SP.need,Az,he,h1,hn2,h3,h5,h6,h7,h8,hn7]),hE⟩) ?_;rintro⟨⟨nds6,xnds6⟩,ands6,cnds6⟩ hnds6;dsimp only at hnds6 ⊢;refine Aa 1 [] (λ_=>Au [0,2] rfl<|Ag rfl ?_ Aj);refine CN rfl rfl (eC Bf rfl rfl) (λw f hM=>A8 _ t _ _ _ _ _ _)<|Aa 1 [] (λ_=>Au [0,2] rfl<|Ag rfl ?_ Aj);exact Aa 2 [1] (y<|λ_=>Au [0,2] rfl<|Bk<|Aa 2 [] (λ_=>AL (λw f hM=>A9 rfl (Ac rfl B4 hM.k1 rfl)) (λw f hM=>⟨(⟨32,t.ln,t.co,h.tx,0,nds6⟩,ands6,cnds6),f,rfl,(by unfold Dy;simp[SP.need,Az,h1,hn2,h3,h5,h6,h7,h8,hn7,hnds6]),hM.exm,⟨hM.f0,tQ⟩⟩)));refine A2 1 [] (λ_=>Ag rfl ?_ Aj);refine Aa 2 [] (λ_=>Au [0,1,2] rfl<|A2 1 [] (λ_=>Ag rfl ?_ Aj));refine AX rfl rfl (eC AB rfl rfl) (λw2 f2 he hE=>⟨rfl,_,f2,rfl,(by unfold Dy;simp[SP.need,Az,he,h1,hn2,h3,h5,h6,h7,h8]),hE⟩) λhn8=>?_
 cases hn8
theorem Ln:∀n,∀(w:World)(f:Fq)(_:Vl w f)(_:Db w f)(t:AK)(k:Fo)(a:Option Addr)(c:Nat),Gp n t k→DH w f k a c→BB prog 48 #[fV t a k.len c] w (Hy (Dy (n+1) t k) w f) (HT 61 (Dy (n+1) t k) w f)
 |0=>Rb 0 (λ_ hq=>by cases hq)
 |n+1=>Rb (n+1) (λn' h=>by cases h;exact Ln n)
theorem TR(n:Nat)(w:World)(f:Fq)(hv:Vl w f)(hJ:Db w f)(t:AK)(k:Fo)(ka:Option Addr)(kc:Nat)(hp:Gp (n+1) t k)(hL:DH w f k ka kc) :
  BB prog 46 #[fV t ka k.len kc] w (Hy (H4 (n+1) t k) w f) (HT 61 (H4 (n+1) t k) w f):=by
 refine Mr (X:=X0 w f) (H:=[]) (R:=[]) (B:=[]) (Fs:=[λw f=>DH w f k ka kc,λw f=>Db w f]) (f:=f) func46 rfl rfl rfl (BR hv ⟨hL,hJ,tQ⟩ ⟨DH.mono,Db.mono,tQ⟩)<|Aa 7 [] (λb1=>λb2=>λ_=>?_);rcases Fo.nc k with rfl|⟨h,hk,r,rfl⟩
 refine C3 [0,1] Am (.rd 0 (.rd 1 (.br 2 (rd [3,4,5,6,7,8,9,10,11,12,13,14,15,16,17,18,19,20,21,22,23] (.br 24 .fin .fin)) .fin))) rfl kR<|A2 2 [1,1] (y<|y<|λ_=>Ag rfl ?_ Aj);refine CN rfl rfl (eC GM rfl rfl) (λw f hM=>Co _ t _)<|Aa 1 [] (λ_=>Au [0,1] rfl<|A2 1 [] (λ_=>Jm 6 rfl (λh1=>?_) (λh1=>?_)));refine A2 6 [1] (y<|λ_=>Jm 12 rfl (λh2=>?_) (λh2=>?_));simp[Fo.len] at h2;refine A2 14 [] (λ_=>Ag rfl ?_ Aj);refine AX rfl rfl (eC AB rfl rfl) (λw2 f2 he hE=>⟨rfl,_,f2,rfl,(by simp[H4]),hE⟩) λhn1=>?_
 cases hn1
 refine A2 20 [] (λ_=>Ag rfl ?_ Aj);refine AX rfl rfl (eC AB rfl rfl) (λw2 f2 he hE=>⟨rfl,_,f2,rfl,(by simp[H4]),hE⟩) λhn2=>?_
 cases hn2
 have hkl:=hp.2.2.1;have hkl2:r.len+1≤100000:=hkl;refine jX 0 rfl<|P4 1 rfl<|MM 0 rfl ?_;rintro⟨eb,eo,hka,hkc⟩ rfl;refine C3 [0,1] Am (.rd 0 (.rd 1 (.br 2 (rd [3,4,5,6,7,8,9,10,11,12,13,14,15,16,17,18,19,20,21,22,23] (.br 24 .fin .fin)) .fin))) rfl kR<|A2 2 [1,1] (y<|y<|λ_=>Ag rfl ?_ Aj);refine CN rfl rfl (eC GM rfl rfl) (λw f hM=>Co _ t _)<|Aa 1 [] (λ_=>Au [0,1] rfl<|A2 1 [] (λ_=>Jm 6 rfl (λh3=>?_) (λh3=>?_)));refine A2 6 [1] (y<|λ_=>Jm 12 rfl (λh4=>?_) (λh4=>?_));refine A2 9 [1,100,0] (y<|aI (by first|(simp only[Fo.len];omega)|omega)<|y2<|λ_=>Jm 21 rfl (λh5=>?_) (λh5=>?_));refine A2 5 [1] (y<|λ_=>Ag rfl ?_ Aj);refine AX rfl rfl (eC AB rfl rfl) (λw2 f2 he hE=>⟨rfl,_,f2,rfl,(by simp[H4,SP.need,Az,he,h3,h4,h5]),hE⟩) λhn3=>Aa 1 [] (λ_=>Au [0,1] rfl<|Bk<|Aa 2 [] (λ_=>C3 [1] Am (rd [0,1,2,3,4,5,6,7,8,9] (.br 10 (.br 11 (.br 12 .fin .fin) .fin) .fin)) rfl kR<|A2 9 [0,0,100,4,0] (y<|y<|aI (by first|(simp only[Fo.len];omega)|omega)<|y2<|y<|λ_=>Gn rfl rfl rfl (λw hK=>GI rfl rfl rfl Ku)<|Ag rfl ?_ Aj)));refine J0 rfl rfl (eC CV rfl rfl) (λw f hM=>BM 48 JX (Dy (n+1)) (Gp n) (λw f hv hJ t k a c hd hT=>Ln n w f hv hJ t k a c hd hT) w f hM.vl hM.f5 r _ _ (De hp).2 oM hM.f3) (λ_=>⟨AD.mono,tQ⟩) (λe w2 f2 he hE=>⟨rfl,e,f2,rfl,(by simp[H4,SP.need,Az,he,h3,h4,h5,hn3]),hE⟩) ?_;rintro⟨⟨nds1,xnds1⟩,ands1,cnds1⟩ hnds1;dsimp only at hnds1 ⊢;refine Aa 1 [] (λ_=>Au [1] rfl<|Ag rfl ?_ Aj);refine CN rfl rfl (eC Bf rfl rfl) (λw f hM=>A8 _ t _ _ _ _ _ _)<|Aa 1 [] (λ_=>Au [1] rfl<|Ag rfl ?_ Aj);exact Aa 2 [0] (y<|λ_=>Au [1] rfl<|Bk<|Aa 2 [] (λ_=>AL (λw f hM=>A9 rfl (Ac rfl B4 hM.k0 rfl)) (λw f hM=>⟨(⟨42,t.ln,t.co,h.tx,0,nds1⟩,ands1,cnds1),f,rfl,(by simp[H4,SP.need,Az,h3,h4,h5,hn3,hnds1]),hM.exm,⟨hM.f0,tQ⟩⟩)));refine A2 5 [] (λ_=>Ag rfl ?_ Aj);refine AX rfl rfl (eC AB rfl rfl) (λw2 f2 he hE=>⟨rfl,_,f2,rfl,(by simp[H4,SP.need,Az,he,h3,h4,h5]),hE⟩) λhn4=>?_
 cases hn4
 have h9:=of_decide_eq_false h4;simp only[Fo.len] at h9;omega;refine A2 20 [] (λ_=>Ag rfl ?_ Aj);refine AX rfl rfl (eC AB rfl rfl) (λw2 f2 he hE=>⟨rfl,_,f2,rfl,(by simp[H4,SP.need,Az,he,h3]),hE⟩) λhn5=>?_
 cases hn5
set_option maxHeartbeats 1000000 in
theorem V7(n:Nat)(w:World)(f:Fq)(hv:Vl w f)(hJ:Db w f)(t:AK)(k:Fo)(ka:Option Addr)(kc:Nat)(hp:Gp (n+1) t k)(hL:DH w f k ka kc) :
  BB prog 20 #[fV t ka k.len kc] w (Hy (CC (n+1) t k) w f) (HT 61 (CC (n+1) t k) w f):=by
 have ihx:=Lt n;refine Mr (X:=X0 w f) (H:=[]) (R:=[]) (B:=[]) (Fs:=[λw f=>DH w f k ka kc,λw f=>Db w f]) (f:=f) func20 rfl rfl rfl (BR hv ⟨hL,hJ,tQ⟩ ⟨DH.mono,Db.mono,tQ⟩)<|Aa 7 [] (λb1=>λb2=>λ_=>?_);rcases Fo.nc k with rfl|⟨h,hk,r,rfl⟩
 refine C3 [0,1] Am (.rd 0 (.rd 1 (.br 2 (rd [3,4,5,6,7,8,9,10,11,12,13] (.br 14 (.rd 15 (.br 16 .fin .fin)) .fin)) .fin))) rfl kR<|A2 2 [1,1] (y<|y<|λ_=>Ag rfl ?_ Aj);refine CN rfl rfl (eC GM rfl rfl) (λw f hM=>Co _ t _)<|Aa 1 [] (λ_=>Au [0,1] rfl<|A2 1 [] (λ_=>Jm 11 rfl (λh1=>?_) (λh1=>?_)));refine A2 6 [1] (y<|λ_=>Jm 17 rfl (λh2=>?_) (λh2=>?_));simp[Fo.len] at h2;refine A2 4 [] (λ_=>Ag rfl ?_ Aj);refine Aa 2 [] (λ_=>Au [0,1] rfl<|A2 1 [] (λ_=>Ag rfl ?_ Aj));refine AX rfl rfl (eC AB rfl rfl) (λw2 f2 he hE=>⟨rfl,_,f2,rfl,(by simp[CC]),hE⟩) λhn1=>?_
 cases hn1
 refine A2 10 [] (λ_=>Ag rfl ?_ Aj);refine Aa 2 [] (λ_=>Au [0,1] rfl<|A2 1 [] (λ_=>Ag rfl ?_ Aj));refine AX rfl rfl (eC AB rfl rfl) (λw2 f2 he hE=>⟨rfl,_,f2,rfl,(by simp[CC]),hE⟩) λhn2=>?_
 cases hn2
 have hkl:=hp.2.2.1;have hkl2:r.len+1≤100000:=hkl;have hall:=(De hp).2;refine jX 0 rfl<|P4 1 rfl<|MM 0 rfl ?_;rintro⟨eb,eo,hka,hkc⟩ rfl;refine C3 [0,1] Am (.rd 0 (.rd 1 (.br 2 (rd [3,4,5,6,7,8,9,10,11,12,13] (.br 14 (.rd 15 (.br 16 .fin .fin)) .fin)) .fin))) rfl kR<|A2 2 [1,1] (y<|y<|λ_=>Ag rfl ?_ Aj);refine CN rfl rfl (eC GM rfl rfl) (λw f hM=>Co _ t _)<|Aa 1 [] (λ_=>Au [0,1] rfl<|A2 1 [] (λ_=>Jm 11 rfl (λh3=>?_) (λh3=>?_)));refine A2 6 [1] (y<|λ_=>Jm 17 rfl (λh4=>?_) (λh4=>?_));refine A2 4 [1,100,0] (y<|aI (by first|(simp only[Fo.len];omega)|(dsimp only;omega)|omega)<|y2<|λ_=>Ag rfl ?_ Aj);refine CN rfl rfl (eC XL rfl rfl) (λw f hM=>FE _ h _)<|Aa 1 [] (λ_=>Au [0,1] rfl<|A2 1 [] (λ_=>Ag rfl ?_ Aj));refine AX rfl rfl (eC AB rfl rfl) (λw2 f2 he hE=>⟨rfl,_,f2,rfl,(by simp[CC,SP.need,Az,he,h3,h4]),hE⟩) λhn3=>Aa 1 [] (λ_=>Au [0,1] rfl<|Bk<|Aa 5 [1] (y<|λ_=>CW rfl rfl (λw f hM=>GI rfl rfl rfl Ku)<|Aa 4 [] (λ_=>?_)));generalize hla:EM (some (⟨eb,eo,none⟩:Addr)) kc 6=la;refine Aa 24 [1,100,4] (y<|aI (by first|(simp only[Fo.len];omega)|(dsimp only;omega)|omega)<|y2<|λ_=>AJ 36 rfl rfl (λh5=>?_) (λh5=>?_));refine Aa 2 [] (λ_=>?_);rcases Fo.most r with ⟨a,ak,b,bk,c,ck,r2,rfl⟩|hne
 refine Io (p:=(Fo.cons a ak (.cons b bk (.cons c ck r2))).len≤kc-1) (λw f hM=>hM.f3.1) λhcap=>?_;have hcap2:r2.len+3≤kc-1:=hcap;have hkl3:r2.len+3+1≤100000:=hkl2;have hbl:bk.len≤100000:=hall.2.1.2.2.1;refine P4 3 rfl<|MM 0 rfl ?_;rintro⟨eb0,eo0,k0a,k0c⟩ rfl;refine WT 1 rfl ?_;rintro⟨k1a,k1c⟩;refine C3 [0,1] Am (rd [0,1,2,3,4,5,6] (.br 7 (rd [8,9,10,11,12] (.br 13 (rd [14,15,16,17,18,19,20,21,22] (.br 23 .fin .fin)) .fin)) .fin)) rfl kR<|A2 4 [1] (y<|λ_=>Jm 41 rfl (λh6=>?_) (λh6=>?_));refine A2 3 [101,0] (aI (by first|(simp only[Fo.len];omega)|(dsimp only;omega)|omega)<|y2<|λ_=>Ag rfl ?_ Aj);refine CN rfl rfl (eC SF rfl rfl) (λw f hM=>FQ _ (Db.gl hM.f10) a _ hall.1.1.1 hall.1.1.2)<|Aa 1 [] (λ_=>Au [0,1] rfl<|A2 2 [] (λ_=>Jm 47 rfl (λh7=>?_) (λh7=>?_)));refine A2 3 [100,0] (aI (by first|(simp only[Fo.len];omega)|(dsimp only;omega)|omega)<|y2<|λ_=>Ag rfl ?_ Aj);refine CN rfl rfl (eC GM rfl rfl) (λw f hM=>Co _ b _)<|Aa 1 [] (λ_=>Au [0,1] rfl<|A2 2 [] (λ_=>Jm 53 rfl (λh8=>?_) (λh8=>?_)));refine A2 7 [100,5] (aI (by first|(simp only[Fo.len];omega)|(dsimp only;omega)|omega)<|y2<|λ_=>Ag rfl ?_ Aj);refine AX rfl rfl (eC AB rfl rfl) (λw2 f2 he hE=>⟨rfl,_,f2,rfl,(by simp[CC,SP.need,Az,he,h3,h4,hn3,h5,h6,h7,h8]),hE⟩) λhn4=>Aa 1 [] (λ_=>Au [0,1] rfl<|Bk<|Aa 18 [100,5] (aI (by first|(simp only[Fo.len];omega)|(dsimp only;omega)|omega)<|y2<|λ_=>Dl (λw f=>DH w f (.cons c ck r2) (some ⟨eb0,eo0+2*6,none⟩) (kc-1-2)) (λw f hM=>EH.toF hM.f1 (by show r2.len+1≤_;omega)) DH.mono<|NK 74 6 ?_));refine Fp (α:=Nat×Fo×Nd×List Value×Option Addr×Nat) (λx=>x.2.1.len) (λx=>x.1+x.2.1.len=bk.len∧x.2.2.1.len=x.1∧(BW bk=match BW x.2.1 with|none=>none|some y=>some (x.2.2.1.app y))∧x.2.1.all (λt _=>t.ok)) (λx=>(E7 1 (pB b1) 2 (pB b2) 3 (.slice (some (⟨eb0,eo0,none⟩:Addr)) (Fo.cons a ak (.cons b bk (.cons c ck r2))).len (kc-1)) 5 (.slice x.2.2.2.2.1 x.1 x.2.2.2.2.2) 65 (.slice k1a bk.len k1c) 66 (iV (bk.len:Int)) 67 (iV (x.1:Int)))) (λx=>X0 w f) (λx=>[⟨b2,zN,74,true⟩,⟨b1,[iV t.k,iV t.ln,iV t.co,iV t.nm,S t.tx,.slice (some (⟨eb,eo,none⟩:Addr)) (Fo.cons h hk (Fo.cons a ak (.cons b bk (.cons c ck r2)))).len kc],110,true⟩]) (λx=>[⟨74,6,x.2.2.2.2.1,x.2.2.2.2.2,x.1,x.2.2.2.1⟩]) (λx=>[]) (λx=>[λw f=>EH w f k1a x.1 x.2.1,λw f=>BU w f x.2.2.1 x.2.2.2.1,λw f=>EH w f (some (⟨eb0,eo0,none⟩:Addr)) 0 (Fo.cons a ak (.cons b bk (.cons c ck r2))),λw f=>DH w f (.cons c ck r2) (some ⟨eb0,eo0+2*6,none⟩) (kc-1-2),λw f=>Db w f]) (0,bk,.nil,[],none,0) ⟨Nat.zero_add _,rfl,ZI,Fo.ok.all hall.2.1.2.1⟩ lE (λw f hM=>hM.more (B':=[]) (F':=[λw f=>EH w f k1a 0 bk,λw f=>BU w f .nil []]) nE (AE.mem ⟨DH.at hM.f1,rfl,tQ⟩) (Ax.mem ⟨EH.mono,BU.mono,tQ⟩) |>.less (sK (sK sZ)) sR nE (mR [0,1,7,2,13])) ?_;rintro⟨i,q,vs,xs,ra,rc⟩ ⟨hi,hvl,htv,hqo⟩;dsimp only at hi hvl htv hqo ⊢;refine Aa 6 [] (λ_=>AJ 68 rfl rfl (λh9=>?_) (λh9=>?_));refine Aa 6 [] (λ_=>?_)
 have hil:i<bk.len:=by have:=of_decide_eq_true h9;omega
 obtain⟨v,vk,q,rfl⟩:=Fo.cases1 q oM;have hi2:i+(q.len+1)=bk.len:=hi;refine MM 0 rfl ?_;rintro⟨vb,vo,vka,vkc⟩ rfl;refine Aa 8 [100,0,0] (aI (by first|(simp only[Fo.len];omega)|(dsimp only;omega)|omega)<|y2<|λb3=>y<|λ_=>C3 [0,1,2] Am (.rd 0 (.rd 1 (.br 2 (.br 3 .fin .fin) .fin))) rfl kR<|A2 2 [2,0] (y<|y<|λ_=>Ag rfl ?_ Aj));refine CN rfl rfl (eC Y7 rfl rfl) (λw f hM=>IH _ v _ hqo.1.1)<|Aa 1 [] (λ_=>Au [0,1,2] rfl<|Ag rfl ?_ Aj);exact AX rfl rfl (eC AB rfl rfl) (λw2 f2 he hE=>⟨rfl,_,f2,rfl,(by have h9:=kM htv he;simp[CC,SP.need,h9,h3,h4,hn3,h5,h6,h7,h8,hn4]),hE⟩) λhn5=>Aa 1 [] (λ_=>Au [0,1,2] rfl<|Bk<|Aa 7 [0,0] (y<|y<|λ_=>CN rfl rfl (eC Bf rfl rfl) (λw f hM=>A8 _ v _ _ _ _ _ _)<|Aa 1 [] (λb4=>λ_=>Da 0 0 rfl rfl L0 rfl rfl rfl rfl rfl rfl rfl rfl (λ_ _=>rfl) oM oM λra2 rc2=>Aa 8 [] (aI ⟨oM,oM⟩<|λ_=>CX ((i+1,q,(vs.app (Az v 31 v.tx .nil).one),(xs++Kc 31 v.ln v.co v.tx 0 none 0 0),ra2,rc2)) (show q.len<q.len+1 from Nat.lt_succ_self _) ⟨show i+1+q.len=_ by omega,show (vs.app (Az v 31 v.tx .nil).one).len=i+1 by rw[Nd.app_len,hvl];rfl,ZZ htv hn5,hqo.2⟩ lE (λw f hM=>⟨_,(hM.more (B':=[]) (F':=[λw f=>BU w f (vs.app (Az v 31 v.tx .nil).one) (xs++Kc 31 v.ln v.co v.tx 0 none 0 0)]) nE (AE.mem ⟨BU.app (BU.one (k:=.nil) ⟨Nat.zero_le _,.inl rfl⟩) hM.f3,tQ⟩) (Ax.mem ⟨BU.mono,tQ⟩)).less (sD (sD (sK (sK sZ)))) sR nE (mR [2,0,5,6,7])⟩)))));refine Aa 3 [] (λ_=>ES<|Aa 3 [] (λ_=>?_));obtain rfl:q=.nil:=Fo.len0 (by have:=of_decide_eq_false h9;omega);have htv2:=jN htv;have hie:i=bk.len:=by have h9:i+0=bk.len:=hi;omega
 subst hvl;refine WT 2 rfl ?_;rintro⟨k9a,k9c⟩;refine C3 [1] Am (rd [0,1,2,3,4,5,6,7,8] (.br 9 (.br 10 (.br 11 (.br 12 .fin .fin) .fin) .fin) .fin)) rfl kR<|A2 8 [0,100,4] (y<|aI (by first|(simp only[Fo.len];omega)|(dsimp only;omega)|omega)<|y2<|λ_=>Gn rfl rfl rfl (λw hK=>Yf (Fo.cons c ck r2).len rfl rfl rfl oM Ku)<|Ag rfl ?_ Aj);refine WC rfl rfl (eC CV rfl rfl) (λw f hM=>GH 46 nG (H4 (n+1)) (Gp (n+1)) (λw f hv hJ t k a c hd hT=>TR n w f hv hJ t k a c hd hT) w f hM.vl hM.f6 (.cons c ck r2) _ _ (Fo.all_imp (λ_ _ h=>Ry h) hall.2.2) (by show r2.len+1≤_;omega) hM.f5) (λ_=>⟨BU.mono,tQ⟩) (λe w2 f2 he hE=>⟨rfl,e,f2,rfl,(by simp[CC,SP.need,Az,he,h3,h4,hn3,h5,h6,h7,h8,hn4,htv2]),hE⟩) ?_;rintro⟨nds1,xnds1⟩ ands1 cnds1 hnds1;dsimp only at hnds1 ⊢;have hnl:=DI hnds1;have hnl2:nds1.len=r2.len+1:=hnl;refine Io (p:=∃rb,ands1=some ⟨rb,0,none⟩) (λw f hM=>by rcases (hM.row _ (.head _)).2 with ⟨_,_,h9⟩|⟨ob,_,h9,_⟩;(dsimp only at h9;omega);exact⟨ob,h9⟩) λhob=>?_;obtain⟨rb,rfl⟩:=hob;refine fE 0 rfl rfl<|Aa 1 [] (λ_=>AW [1] EE rfl (λ_ h=>.tail _ h)<|Ag rfl ?_ Aj);refine Io (p:=xnds1.length=nds1.len*6∧∀v∈xnds1,v.oneCell'=true) (λw f hM=>⟨BU.len hM.f0,BU.one' hM.f0⟩) λ⟨hxl,hx1⟩=>W6 0 0 rfl rfl L0 rfl rfl rfl rfl rfl rfl hxl hx1 oM (λ_ _=>rfl) oM oM λands2 cnds2=>Dl (λw f=>BU w f (vs.app nds1) (xs++xnds1)) (λw f hM=>BU.app hM.f0 hM.f4) BU.mono<|NT (λw f=>AD w f (vs.app nds1) ands2 cnds2) AD.mono (λw f hM=>JO hM hM.f0)<|Aa 1 [] (λ_=>AW [1] EE rfl (λ_ h=>.tail _ h)<|Ag rfl ?_ Aj);refine CN rfl rfl (eC Bf rfl rfl) (λw f hM=>A8 _ t _ _ _ _ _ _)<|Aa 1 [] (λ_=>AW [1] EE rfl (λ_ h=>.tail _ h)<|Ag rfl ?_ Aj);exact Aa 2 [0] (y<|λ_=>AW [1] EE rfl (λ_ h=>.tail _ h)<|Bk<|Aa 4 [] (λ_=>AL (λw f hM=>A9 rfl (Ac rfl B4 hM.k0 rfl)) (λw f hM=>⟨(⟨41,t.ln,t.co,a.tx,0,(vs.app nds1)⟩,ands2,cnds2),f,(by simp[nV,Nd.app_len,N.one,N.cons,Nd.len,Nat.add_comm]),(by simp[CC,SP.need,Az,h3,h4,hn3,h5,h6,h7,h8,hn4,htv2,hnds1]),hM.exm,⟨hM.f0,tQ⟩⟩)));refine A2 7 [] (λ_=>Ag rfl ?_ Aj);refine AX rfl rfl (eC AB rfl rfl) (λw2 f2 he hE=>⟨rfl,_,f2,rfl,(by simp[CC,SP.need,Az,he,h3,h4,hn3,h5,h6,h7,h8]),hE⟩) λhn6=>?_
 cases hn6
 refine A2 3 [] (λ_=>Ag rfl ?_ Aj);refine Aa 2 [] (λ_=>Au [0,1] rfl<|A2 9 [] (λ_=>Ag rfl ?_ Aj));refine AX rfl rfl (eC AB rfl rfl) (λw2 f2 he hE=>⟨rfl,_,f2,rfl,(by simp[CC,SP.need,Az,he,h3,h4,hn3,h5,h6,h7]),hE⟩) λhn7=>?_
 cases hn7
 have h9:=of_decide_eq_false h6;simp only[Fo.len] at h9;omega;refine C3 [0,1] Am (rd [0,1,2,3,4,5,6] (.br 7 (rd [8,9,10,11,12] (.br 13 (rd [14,15,16,17,18,19,20,21,22] (.br 23 .fin .fin)) .fin)) .fin)) rfl kR<|A2 4 [1] (y<|λ_=>Jm 41 rfl (λh10=>?_) (λh10=>?_));have h9:=of_decide_eq_true h10;omega;refine A2 3 [] (λ_=>Ag rfl ?_ Aj);refine Aa 2 [] (λ_=>Au [0,1] rfl<|A2 5 [] (λ_=>Ag rfl ?_ Aj));refine Aa 2 [] (λ_=>Au [0,1] rfl<|A2 9 [] (λ_=>Ag rfl ?_ Aj));refine AX rfl rfl (eC AB rfl rfl) (λw2 f2 he hE=>⟨rfl,_,f2,rfl,(by exact aA (beq_iff_eq.1 h5) hne),hE⟩) λhn8=>?_
 cases hn8
 refine Aa 7 [] (λ_=>AJ 96 rfl rfl (λh11=>?_) (λh11=>?_));refine Aa 2 [] (λ_=>?_);rcases Fo.three r with ⟨a,ak,b,bk,c,ck,rfl⟩|hne
 refine P4 3 rfl<|MM 0 rfl ?_;rintro⟨eb0,eo0,k0a,k0c⟩ rfl;refine WT 1 rfl ?_;rintro⟨k1a,k1c⟩;refine WT 1 rfl ?_;rintro⟨k2a,k2c⟩;refine C3 [0,1] Am (rd [0,1,2,3,4,5,6] (.br 7 (.rd 8 (.br 9 .fin .fin)) .fin)) rfl kR<|A2 4 [1] (y<|λ_=>Jm 101 rfl (λh12=>?_) (λh12=>?_));refine A2 3 [102,0] (aI (by first|(simp only[Fo.len];omega)|(dsimp only;omega)|omega)<|y2<|λ_=>Ag rfl ?_ Aj);refine CN rfl rfl (eC No rfl rfl) (λw f hM=>En _ (Db.gl hM.f12) a _ hall.1.1.1 hall.1.1.2)<|Aa 1 [] (λ_=>Au [0,1] rfl<|A2 1 [] (λ_=>Ag rfl ?_ Aj));refine AX rfl rfl (eC AB rfl rfl) (λw2 f2 he hE=>⟨rfl,_,f2,rfl,(by simp[CC,SP.need,Az,he,h3,h4,hn3,h5,h11,h12]),hE⟩) λhn9=>Aa 1 [] (λ_=>Au [0,1] rfl<|Bk<|Aa 2 [] (λ_=>C3 [1] Am (rd [0,1,2,3,4,5,6,7,8,10,11,12] (.br 9 (.br 13 (.br 14 (.br 15 (.br 16 .fin .fin) .fin) .fin) .fin) .fin)) rfl kR<|A2 12 [0,102,4,101,0,100,0] (y<|aI (by first|(simp only[Fo.len];omega)|(dsimp only;omega)|omega)<|y2<|aI (by first|(simp only[Fo.len];omega)|(dsimp only;omega)|omega)<|y2<|aI (by first|(simp only[Fo.len];omega)|(dsimp only;omega)|omega)<|y2<|λ_=>Ag rfl ?_ Aj)));refine J0 rfl rfl (eC JX rfl rfl) (λw f hM=>Ln n w f hM.vl hM.f12 b bk _ _ hall.2.1 hM.f2) (λ_=>⟨AD.mono,tQ⟩) (λe w2 f2 he hE=>⟨rfl,e,f2,rfl,(by simp[CC,SP.need,Az,he,h3,h4,hn3,h5,h11,h12,hn9]),hE⟩) ?_;rintro⟨nd1,and1,cnd1⟩ hnd1;dsimp only at hnd1 ⊢;refine Aa 1 [] (λ_=>Au [1] rfl<|Ag rfl ?_ Aj);refine J0 rfl rfl (eC Dh rfl rfl) (λw f hM=>ihx w f hM.vl hM.f13 c ck _ _ hall.2.2.1 hM.f1) (λ_=>⟨AD.mono,tQ⟩) (λe w2 f2 he hE=>⟨rfl,e,f2,rfl,(by simp[CC,SP.need,Az,he,h3,h4,hn3,h5,h11,h12,hn9,hnd1]),hE⟩) ?_;rintro⟨nd2,and2,cnd2⟩ hnd2;dsimp only at hnd2 ⊢;refine Aa 1 [] (λ_=>Au [1] rfl<|Ag rfl ?_ Aj);refine Aa 2 [] (λb5=>λ_=>Au [2] rfl<|Ag rfl ?_ Aj);refine CG 0 rfl rfl<|Dl (λw f=>AD w f (nd1.cons (nd2.one)) (some ⟨b5,0,none⟩) 2) (λw f hM=>BU.toF (BU.cons' hM.f1 (BU.cons' hM.f0 (show BU _ _ .nil [] from rfl))) hM.b0 (Nat.le_refl _)) AD.mono<|CN rfl rfl (eC Bf rfl rfl) (λw f hM=>A8 _ t _ _ _ _ _ _)<|Aa 1 [] (λ_=>AW [1] EE rfl (λ_ h=>.tail _ h)<|Ag rfl ?_ Aj);exact Aa 2 [0] (y<|λ_=>AW [1] EE rfl (λ_ h=>.tail _ h)<|Bk<|Aa 4 [] (λ_=>AL (λw f hM=>A9 rfl (Ac rfl B4 hM.k0 rfl)) (λw f hM=>⟨(⟨43,t.ln,t.co,a.tx,0,(nd1.cons (nd2.one))⟩,(some ⟨b5,0,none⟩),2),f,rfl,(by simp[CC,SP.need,Az,h3,h4,hn3,h5,h11,h12,hn9,hnd1,hnd2]),hM.exm,⟨hM.f0,tQ⟩⟩)));simp[Fo.len] at h12;refine C3 [0,1] Am (rd [0,1,2,3,4,5,6] (.br 7 (.rd 8 (.br 9 .fin .fin)) .fin)) rfl kR<|A2 4 [1] (y<|λ_=>Jm 101 rfl (λh13=>?_) (λh13=>?_));exact absurd (by have h9:=beq_iff_eq.1 h13;omega) hne;refine A2 3 [] (λ_=>Ag rfl ?_ Aj);refine Aa 2 [] (λ_=>Au [0,1] rfl<|A2 1 [] (λ_=>Ag rfl ?_ Aj));refine AX rfl rfl (eC AB rfl rfl) (λw2 f2 he hE=>⟨rfl,_,f2,rfl,(by exact cL (beq_iff_eq.1 h11) hne),hE⟩) λhn10=>?_
 cases hn10
 refine Aa 7 [] (λ_=>AJ 124 rfl rfl (λh14=>?_) (λh14=>?_));refine Aa 2 [] (λ_=>?_);rcases Fo.two r with ⟨a,ak,b,bk,rfl⟩|hne
 refine P4 3 rfl<|MM 0 rfl ?_;rintro⟨eb0,eo0,k0a,k0c⟩ rfl;refine WT 1 rfl ?_;rintro⟨k1a,k1c⟩;refine C3 [0,1] Am (rd [0,1,2,3,4,5,6] (.br 7 (.rd 8 (.br 9 .fin .fin)) .fin)) rfl kR<|A2 4 [1] (y<|λ_=>Jm 129 rfl (λh15=>?_) (λh15=>?_));refine A2 3 [101,0] (aI (by first|(simp only[Fo.len];omega)|(dsimp only;omega)|omega)<|y2<|λ_=>Ag rfl ?_ Aj);refine CN rfl rfl (eC No rfl rfl) (λw f hM=>En _ (Db.gl hM.f10) a _ hall.1.1.1 hall.1.1.2)<|Aa 1 [] (λ_=>Au [0,1] rfl<|A2 1 [] (λ_=>Ag rfl ?_ Aj));refine AX rfl rfl (eC AB rfl rfl) (λw2 f2 he hE=>⟨rfl,_,f2,rfl,(by simp[CC,SP.need,Az,he,h3,h4,hn3,h5,h11,h14,h15]),hE⟩) λhn11=>Aa 1 [] (λ_=>Au [0,1] rfl<|Bk<|Aa 2 [] (λ_=>C3 [1] Am (rd [0,1,2,3,4,5,6,7,8] (.br 9 (.br 10 (.br 11 (.br 12 .fin .fin) .fin) .fin) .fin)) rfl kR<|A2 9 [0,101,4,100,0] (y<|aI (by first|(simp only[Fo.len];omega)|(dsimp only;omega)|omega)<|y2<|aI (by first|(simp only[Fo.len];omega)|(dsimp only;omega)|omega)<|y2<|λ_=>Ag rfl ?_ Aj)));refine J0 rfl rfl (eC Dh rfl rfl) (λw f hM=>ihx w f hM.vl hM.f10 b bk _ _ hall.2.1 hM.f0) (λ_=>⟨AD.mono,tQ⟩) (λe w2 f2 he hE=>⟨rfl,e,f2,rfl,(by simp[CC,SP.need,Az,he,h3,h4,hn3,h5,h11,h14,h15,hn11]),hE⟩) ?_;rintro⟨nd3,and3,cnd3⟩ hnd3;dsimp only at hnd3 ⊢;refine Aa 1 [] (λ_=>Au [1] rfl<|Ag rfl ?_ Aj);refine Aa 2 [] (λb6=>λ_=>Au [2] rfl<|Ag rfl ?_ Aj);refine CG 0 rfl rfl<|Dl (λw f=>AD w f (nd3.one) (some ⟨b6,0,none⟩) 1) (λw f hM=>BU.toF (BU.cons' hM.f0 (show BU _ _ .nil [] from rfl)) hM.b0 (Nat.le_refl _)) AD.mono<|CN rfl rfl (eC Bf rfl rfl) (λw f hM=>A8 _ t _ _ _ _ _ _)<|Aa 1 [] (λ_=>AW [1] EE rfl (λ_ h=>.tail _ h)<|Ag rfl ?_ Aj);exact Aa 2 [0] (y<|λ_=>AW [1] EE rfl (λ_ h=>.tail _ h)<|Bk<|Aa 4 [] (λ_=>AL (λw f hM=>A9 rfl (Ac rfl B4 hM.k0 rfl)) (λw f hM=>⟨(⟨44,t.ln,t.co,a.tx,0,(nd3.one)⟩,(some ⟨b6,0,none⟩),1),f,rfl,(by simp[CC,SP.need,Az,h3,h4,hn3,h5,h11,h14,h15,hn11,hnd3]),hM.exm,⟨hM.f0,tQ⟩⟩)));simp[Fo.len] at h15;refine C3 [0,1] Am (rd [0,1,2,3,4,5,6] (.br 7 (.rd 8 (.br 9 .fin .fin)) .fin)) rfl kR<|A2 4 [1] (y<|λ_=>Jm 129 rfl (λD4=>?_) (λD4=>?_));exact absurd (by have h9:=beq_iff_eq.1 D4;omega) hne;refine A2 3 [] (λ_=>Ag rfl ?_ Aj);refine Aa 2 [] (λ_=>Au [0,1] rfl<|A2 1 [] (λ_=>Ag rfl ?_ Aj));refine AX rfl rfl (eC AB rfl rfl) (λw2 f2 he hE=>⟨rfl,_,f2,rfl,(by exact iZ (beq_iff_eq.1 h14) hne),hE⟩) λhn12=>?_
 cases hn12
 refine Aa 7 [] (λ_=>AJ 148 rfl rfl (λh17=>?_) (λh17=>?_));refine Aa 2 [] (λ_=>?_);rcases Fo.two r with ⟨a,ak,b,bk,rfl⟩|hne
 refine P4 3 rfl<|MM 0 rfl ?_;rintro⟨eb0,eo0,k0a,k0c⟩ rfl;refine WT 1 rfl ?_;rintro⟨k1a,k1c⟩;refine C3 [0,1] Am (rd [0,1,2,3,4,5,6] (.br 7 (rd [8,9,10,11,12] (.br 13 (.rd 14 (.br 15 .fin .fin)) .fin)) .fin)) rfl kR<|A2 4 [1] (y<|λ_=>Jm 153 rfl (λh18=>?_) (λh18=>?_));refine A2 3 [101,0] (aI (by first|(simp only[Fo.len];omega)|(dsimp only;omega)|omega)<|y2<|λ_=>Ag rfl ?_ Aj);refine CN rfl rfl (eC No rfl rfl) (λw f hM=>En _ (Db.gl hM.f10) a _ hall.1.1.1 hall.1.1.2)<|Aa 1 [] (λ_=>Au [0,1] rfl<|A2 2 [] (λ_=>Jm 159 rfl (λh19=>?_) (λh19=>?_)));refine A2 3 [100,0] (aI (by first|(simp only[Fo.len];omega)|(dsimp only;omega)|omega)<|y2<|λ_=>Ag rfl ?_ Aj);refine Br rfl rfl (eC ZE rfl rfl) (λw f hM=>N6 w f hM.vl b bk _ _ hM.f0) (λ_=>trivial) ?_;rintro⟨⟩ -;refine Aa 1 [] (λ_=>Au [0,1] rfl<|A2 1 [] (λ_=>Ag rfl ?_ Aj));refine AX rfl rfl (eC AB rfl rfl) (λw2 f2 he hE=>⟨rfl,_,f2,rfl,(by simp[CC,SP.need,Az,he,h3,h4,hn3,h5,h11,h14,h17,h18,h19]),hE⟩) λhn13=>Aa 1 [] (λ_=>Au [0,1] rfl<|Bk<|Aa 2 [] (λ_=>C3 [1] Am (rd [0,1,2,3,4,5,6,7,8] (.br 9 (.br 10 (.br 11 (.br 12 .fin .fin) .fin) .fin) .fin)) rfl kR<|A2 9 [0,101,4,100,0] (y<|aI (by first|(simp only[Fo.len];omega)|(dsimp only;omega)|omega)<|y2<|aI (by first|(simp only[Fo.len];omega)|(dsimp only;omega)|omega)<|y2<|λ_=>Ag rfl ?_ Aj)));refine J0 rfl rfl (eC Dh rfl rfl) (λw f hM=>ihx w f hM.vl hM.f10 b bk _ _ hall.2.1 hM.f0) (λ_=>⟨AD.mono,tQ⟩) (λe w2 f2 he hE=>⟨rfl,e,f2,rfl,(by simp[CC,SP.need,Az,he,h3,h4,hn3,h5,h11,h14,h17,h18,h19,hn13]),hE⟩) ?_;rintro⟨nd4,and4,cnd4⟩ hnd4;dsimp only at hnd4 ⊢;refine Aa 1 [] (λ_=>Au [1] rfl<|Ag rfl ?_ Aj);refine Aa 2 [] (λb7=>λ_=>Au [2] rfl<|Ag rfl ?_ Aj);refine CG 0 rfl rfl<|Dl (λw f=>AD w f (nd4.one) (some ⟨b7,0,none⟩) 1) (λw f hM=>BU.toF (BU.cons' hM.f0 (show BU _ _ .nil [] from rfl)) hM.b0 (Nat.le_refl _)) AD.mono<|CN rfl rfl (eC Bf rfl rfl) (λw f hM=>A8 _ t _ _ _ _ _ _)<|Aa 1 [] (λ_=>AW [1] EE rfl (λ_ h=>.tail _ h)<|Ag rfl ?_ Aj);exact Aa 2 [0] (y<|λ_=>AW [1] EE rfl (λ_ h=>.tail _ h)<|Bk<|Aa 4 [] (λ_=>AL (λw f hM=>A9 rfl (Ac rfl B4 hM.k0 rfl)) (λw f hM=>⟨(⟨45,t.ln,t.co,a.tx,0,(nd4.one)⟩,(some ⟨b7,0,none⟩),1),f,rfl,(by simp[CC,SP.need,Az,h3,h4,hn3,h5,h11,h14,h17,h18,h19,hn13,hnd4]),hM.exm,⟨hM.f0,tQ⟩⟩)));refine A2 3 [] (λ_=>Ag rfl ?_ Aj);refine Aa 2 [] (λ_=>Au [0,1] rfl<|A2 1 [] (λ_=>Ag rfl ?_ Aj));refine AX rfl rfl (eC AB rfl rfl) (λw2 f2 he hE=>⟨rfl,_,f2,rfl,(by simp[CC,SP.need,Az,he,h3,h4,hn3,h5,h11,h14,h17,h18,h19]),hE⟩) λhn14=>?_
 cases hn14
 simp[Fo.len] at h18;refine C3 [0,1] Am (rd [0,1,2,3,4,5,6] (.br 7 (rd [8,9,10,11,12] (.br 13 (.rd 14 (.br 15 .fin .fin)) .fin)) .fin)) rfl kR<|A2 4 [1] (y<|λ_=>Jm 153 rfl (λh20=>?_) (λh20=>?_));exact absurd (by have h9:=beq_iff_eq.1 h20;omega) hne;refine A2 3 [] (λ_=>Ag rfl ?_ Aj);refine Aa 2 [] (λ_=>Au [0,1] rfl<|A2 5 [] (λ_=>Ag rfl ?_ Aj));refine Aa 2 [] (λ_=>Au [0,1] rfl<|A2 1 [] (λ_=>Ag rfl ?_ Aj));refine AX rfl rfl (eC AB rfl rfl) (λw2 f2 he hE=>⟨rfl,_,f2,rfl,(by exact kJ (beq_iff_eq.1 h17) hne),hE⟩) λhn15=>?_
 cases hn15
 refine Aa 7 [] (λ_=>AJ 178 rfl rfl (λh21=>?_) (λh21=>?_));refine Aa 2 [] (λ_=>?_);rcases Fo.single r with ⟨a,ak,rfl⟩|hne
 refine P4 3 rfl<|MM 0 rfl ?_;rintro⟨eb0,eo0,k0a,k0c⟩ rfl;refine Aa 4 [1] (y<|λ_=>AX rfl rfl (eC AB rfl rfl) (λw2 f2 he hE=>⟨rfl,_,f2,rfl,(by simp[Fo.len] at he),hE⟩) λhn16=>Aa 3 [] (λ_=>C3 [1] Am (rd [0,1,2,3] (.br 4 (.br 5 (.br 6 (.br 7 .fin .fin) .fin) .fin) .fin)) rfl kR<|A2 4 [0,100,0] (y<|aI (by first|(simp only[Fo.len];omega)|(dsimp only;omega)|omega)<|y2<|λ_=>Ag rfl ?_ Aj)));refine J0 rfl rfl (eC Dh rfl rfl) (λw f hM=>ihx w f hM.vl hM.f8 a ak _ _ hall.1 hM.f0) (λ_=>⟨AD.mono,tQ⟩) (λe w2 f2 he hE=>⟨rfl,e,f2,rfl,(by simp[CC,SP.need,Az,he,h3,h4,hn3,h5,h11,h14,h17,h21,hn16]),hE⟩) ?_;rintro⟨nd5,and5,cnd5⟩ hnd5;dsimp only at hnd5 ⊢;refine Aa 1 [] (λ_=>Au [1] rfl<|Ag rfl ?_ Aj);refine Aa 2 [] (λb8=>λ_=>Au [2] rfl<|Ag rfl ?_ Aj);refine CG 0 rfl rfl<|Dl (λw f=>AD w f (nd5.one) (some ⟨b8,0,none⟩) 1) (λw f hM=>BU.toF (BU.cons' hM.f0 (show BU _ _ .nil [] from rfl)) hM.b0 (Nat.le_refl _)) AD.mono<|CN rfl rfl (eC Bf rfl rfl) (λw f hM=>A8 _ t _ _ _ _ _ _)<|Aa 1 [] (λ_=>AW [1] EE rfl (λ_ h=>.tail _ h)<|Ag rfl ?_ Aj);exact Aa 2 [0] (y<|λ_=>AW [1] EE rfl (λ_ h=>.tail _ h)<|Bk<|Aa 4 [] (λ_=>AL (λw f hM=>A9 rfl (Ac rfl B4 hM.k0 rfl)) (λw f hM=>⟨(⟨46,t.ln,t.co,[],0,(nd5.one)⟩,(some ⟨b8,0,none⟩),1),f,rfl,(by simp[CC,SP.need,Az,h3,h4,hn3,h5,h11,h14,h17,h21,hn16,hnd5]),hM.exm,⟨hM.f0,tQ⟩⟩)));exact Aa 4 [1] (y<|λ_=>AX rfl rfl (eC AB rfl rfl) (λw2 f2 he hE=>⟨rfl,_,f2,rfl,(by exact sH (beq_iff_eq.1 h21) hne),hE⟩) λhn17=>absurd (by have h9:=beq_iff_eq.1 hn17;omega) hne);exact Aa 7 [1] (y<|λ_=>iH rfl rfl (eC TJ rfl rfl) (pe:=λe=>e=(t.ln,t.co)) (T:=61) (λw f hM=>(HY w t _).mono (λ_ _ h=>h.elim) λ_ w2 ⟨h1,h2⟩=>⟨_,f,h1,rfl,C2.of_ext h2 hM.vl⟩) (λe w2 f2 he hE=>by subst he;exact⟨rfl,_,f2,rfl,(by exact SK h5 h11 h14 h17 h21),hE⟩));have h9:=of_decide_eq_false h4;simp only[Fo.len] at h9;omega;refine A2 10 [] (λ_=>Ag rfl ?_ Aj);refine Aa 2 [] (λ_=>Au [0,1] rfl<|A2 1 [] (λ_=>Ag rfl ?_ Aj));refine AX rfl rfl (eC AB rfl rfl) (λw2 f2 he hE=>⟨rfl,_,f2,rfl,(by simp[CC,SP.need,Az,he,h3]),hE⟩) λhn18=>?_
 cases hn18
end Go.Proofs.YtelmolopaolbcaaGreatDoor
namespace Go.SP
open Go.SW Go.RowKit
theorem Bv(n:Int):(T1.var n).bnd:=⟨⟨Nat.zero_le _,Nat.zero_le _⟩,tQ⟩
theorem CH{tx:lU}(h:tx.length≤1000000):(c0 tx).bnd:=⟨⟨Nat.zero_le _,h⟩,tQ⟩
theorem Dc{tx:lU}{k:Ty}(h:tx.length≤1000000)(hk:k.len≤200000)(hb:k.bnd):(T1.con tx k).bnd:=⟨⟨hk,h⟩,hb⟩
theorem Ty.bnd_app:∀{x y:Ty},x.bnd→y.bnd→(x.app y).bnd
 |.nil,_,_,h=>h
 |.var _ r,_,h,hy=>Ty.bnd_app (x:=r) h hy
 |.con _ _ r,_,h,hy=>⟨h.1,h.2.1,Ty.bnd_app (x:=r) h.2.2 hy⟩
theorem Ty.bnd_snoc{x:Ty}{t:T1}(h:x.bnd)(ht:t.bnd):(x.snoc t).bnd:=Ty.bnd_app h (Gj ht)
def rJ(P:Program)(fid:FuncId)(TE T TS:TypeId)(n:Nat):Prop:=∀(w:World)(f:Fq)(_:Vl w f)(A:Ad)(_:A.ok)(s:CS)(_:As T TS A s w f)(_:∀b,By A b→f b=0)(_:D0 s)(op ln co nm:Int)(tx:lU)(kids:Nd)(na:Option Addr)(nc:Nat)(e:Ba)(ea:Option Addr),
 kids.size<n→kids.size≤200000→AD w f kids na nc→F8 e→AF w f e ea→s.fresh+200001*(kids.size+1)≤800000000000 →
 BB P fid #[.pointer (some ⟨A.cb,0,none⟩),nV op ln co tx nm kids na nc,.pointer ea] w (ED (α:=(T1×Option Addr×Nat)×(Ba×Option Addr)×CS) (λx=>.tuple #[tV x.1.1 x.1.2.1 x.1.2.2,.pointer x.2.1.2]) (λx=>Cp n s e op ln co tx nm kids=.ok (x.1.1,x.2.1.1,x.2.2)∧x.1.1.bnd∧F8 x.2.1.1∧D0 x.2.2∧x.2.2.fresh≤s.fresh+200001*(kids.size+1)) (By A) (λx=>As T TS A x.2.2) (λx=>[λw f=>Ak w f x.1.1.kids x.1.2.1 x.1.2.2,λw f=>AF w f x.2.1.1 x.2.1.2]) w f)
   (PanE TE (By A) (λer=>Cp n s e op ln co tx nm kids=.error er) w f)
variable {e5:Ba}{s s5:CS}{co ln nm:Int}{k r:Nd}{ar:Ty}
theorem SS{p:N2}{s6:CS}{e:Ba}{op:Int}{tx:lU}{t q:T1}(h:p s e op ln co tx nm k=.ok (q,e5,s5))(h2:EO s5 t q ln co=.ok s6):Ga p s e (t.cons ar) (.cons op ln co tx nm k r)=Ga p s6 e5 ar r:=by
 rw[Ga,h];simp only;rw[T1.hd_cons,h2];simp only;rw[T1.tl_cons]
theorem R4{p:N2}{e:Ba}:EZ p s e k=(match EZ p s e k with|.error x=>.error x|.ok (l,e3,s3)=>.ok (Ty.nil.app l,e3,s3)):=by
 cases EZ p s e k with
 |error x=>rfl
 |ok q=>rfl
theorem T9{p:N2}{e:Ba}{op:Int}{tx:lU}{d:Ty}{q:T1}(h:p s e op ln co tx nm k=.ok (q,e5,s5)) :
   (match EZ p s e (.cons op ln co tx nm k r) with|.error x=>.error x|.ok (l,e3,s3)=>.ok (d.app l,e3,s3):RI (Ty×Ba×CS))=(match EZ p s5 e5 r with|.error x=>.error x|.ok (l,e3,s3)=>.ok ((d.snoc q).app l,e3,s3)):=by
 rw[EZ,h];simp only
 cases EZ p s5 e5 r with
 |error x=>rfl
 |ok z=>obtain⟨l,e3,s3⟩:=z;simp only[Ty.snoc_app]
end Go.SP
namespace Go.SW
open Go.RowKit
def V9:List Oper→Bool
 | []=>true
 |o::l=>(match o.op with|.defer _=>false|_=>true)&&V9 l
abbrev GF(ro:Option Nat):Fence:={Fence.wide with round:=ro}
section
variable{P:Program}{n:Nat}{Q:AU}{σ:Bb}{ds:List Deferred}{w:World}
variable {l vs:List Value}{i m:Nat}{ro:Option Nat}{w':World}
theorem Vr{o:Oper}{a:Act}{next next':Act→World→Prop}{Q:Exit→Act→World→Prop}(hn:∀a w,next a w→next' a w):∀r:Result Next,o.upon P a next Q r→o.uponIn (GF ro) m P a next' Q r
 |.ok (.value _) _,h=>hn _ _ h
 |.ok .skip _,h=>hn _ _ h
 |.ok (.defer _) _,h=>hn _ _ h
 |.ok (.enter f args) w',h=>by
   refine⟨λe=>(by cases e),?_⟩
   have h2:Calls P f args w' _:=Calls.mono (R':=λe w''=>match e,w'' with|.returned v,w''=>next' (a.put o.dst v) w'' | .panicked chain,w''=>Q (.panic chain) a w'' | .outgrown,_=>LetsOut Q) h λe w'' hr=>by
     cases e with
     |returned v=>exact hn _ _ hr
     |panicked c=>exact hr
     |outgrown=>exact hr
   exact (callsIn_wide (n:=m-1)).2 h2
 |.ok (.row row args) w',h=>⟨λe=>(by cases e),λc cs _=>let ⟨v,w2,hr,hs⟩:=h c cs;⟨v,w2,hn _ _ hr,stepsIn_wide.2 hs⟩⟩
 |.halt (.panic _) _,h=>h
theorem Lk{ops:Array Oper}{Q:Exit→Act→World→Prop}(hQ:¬LetsOut Q):∀(l:List Oper)(a:Act)(w:World),V9 l=true→wpList P ops Q l a w→wpListIn (GF ro) m P ops Q l a w
 | [],_,_,_,h=>h
 |o::l,a,w,hd,h=>by
   unfold V9 at hd;simp only[Bool.and_eq_true] at hd;have hnd:∀c,o.op≠.defer c:=λc e=>by rw[e] at hd;exact absurd hd.1 (by simp)
   unfold wpList at h;unfold wpListIn
   split
   · rename_i hw
     rw[if_pos hw] at h;rcases h with h|h
     · refine⟨λ_ _=>trivial,?_⟩
       rw[Oper.semAt_eq _ _ _ hnd];exact Vr (λa w=>Lk hQ l a w hd.2) _ h
     · exact absurd h.2 hQ
   · rename_i hw
     rw[if_neg hw] at h;exact⟨λ_ _=>trivial,Lk hQ l _ w hd.2 h⟩
theorem eW{l:List Oper}{a:Act}(hl:V9 l=true)(hn:¬LetsOut (Q.up n))(ha:St n σ ds a)(h:GO P n l.toArray Q l σ ds w):(Code.region i l.toArray false).wpIn (GF ro) m P (Q.up n) a w :=
 wpIn_region_lit (Lk hn l a w hl (h a ha))
theorem XZ:¬LetsOut (Q.up n):=λh=>by
 obtain⟨a,w,h⟩:=h;exact h
def WJ(P:Program)(n:Nat)(ops:Array Oper)(Q:AU)(l:List Oper)(σ:Bb)(ds:List Deferred)(w:World):Prop :=
 ∀a,St n σ ds a→wpListIn Fence.wide 3 P ops (Q.up n) l a w
theorem Yw{l:List Oper}(h:WJ P n l.toArray Q l σ ds w):GY P n (.region i l.toArray false) Q σ ds w:=λa ha=>wpIn_wide.1 (wpIn_region_lit (h a ha))
variable{ops:Array Oper}{op:Op}{ty:TypeId}{pos:String}{af:Array Edge}{rest:List Oper}{d:Nat}
theorem QR(h:Q.q .normal σ ds w):WJ P n ops Q [] σ ds w:=λ_ ha=>wpListIn_nil ⟨σ,ds,ha,h⟩
theorem F6{v:Value}(hd:Nat.blt d n=true)(hr:AG P σ op ty w v w')(h:WJ P n ops Q rest (AA σ d v) ds w') :
   WJ P n ops Q (⟨some d,op,ty,pos,af,none⟩::rest) σ ds w:=λa ha =>
 wpListIn_plain rfl λK hK=>⟨λ_ _=>trivial,by
   show Oper.uponIn _ _ _ _ _ _ _ ((Oper.semAt none _ _).run P w);rw[Oper.semAt_none,hr a.eval _ _ _ _ ha.ev];exact hK _ _ (h _ (ha.put hd v))⟩
theorem Sv{l0:Nat}{g:Operand}{args:List Operand}{ts:Array TypeId}{R:Ending→World→Prop}(hd:Nat.blt d n=true)(hg:ev σ g=some (.func (.yield l0) #[] #[]))(ha:Ik σ args=some vs)(hy:YieldAt Fence.wide m P l0 vs.toArray w R)
   (h:∀e w',R e w'→∃v,e=.returned v∧WJ P n ops Q rest (AA σ d v) ds w'):WJ P n ops Q (⟨some d,.call {callee:=.value g,args:=args.toArray,argTypes:=ts},ty,pos,af,none⟩::rest) σ ds w:=λa hs =>
 wpListIn_plain rfl λK hK=>⟨λ_ _=>trivial,by
   obtain⟨fn,tmps,assign,body,h1,h2⟩:=hy;have h3:=Ej hs.ev ha
   have he:(execOp a.eval ⟨some d,.call {callee:=.value g,args:=args.toArray,argTypes:=ts},ty,pos,af,none⟩).run P w=.ok (.round l0 fn tmps assign body) w:=by
     simp[execOp,resolve,hs.ev _ _ hg,Deferred.ofValue,invoke,h3,h1]
   show Oper.uponIn _ _ _ _ _ _ _ ((Oper.semAt none _ _).run P w);rw[Oper.semAt_none,he];refine⟨λe=>(by cases e),h2.1,λc cs _=>?_⟩;obtain⟨e,w',hr,hc⟩:=h2.2 c cs (room_wide _);obtain⟨v,rfl,hv⟩:=h e w' hr;exact⟨.returned v,w',hK _ _ (hv _ (hs.put hd v)),hc⟩⟩
def UU(P:Program)(fn:Func)(R:Value→World→Prop):AU :=
 {q:=λe σ ds w=>match e with|.normal|.ret=>∃D,ds=[{target:=.collected D,args:=#[]}]∧w.heap[D]?=some (.deferred (some []))∧∃v,SA P fn σ (w.putObj D (.deferred none)) v∧R v (w.putObj D (.deferred none))|_=>False,p:=λ_ _ _ _=>False}
theorem lY{f:FuncId}{fn:Func}{c:Code}{R:Value→World→Prop}(hf:P.funcs[f]?=some fn)(hb:fn.body=some c)
   (hn:fn.ntmps=n) (hl:Nat.ble l.length n=true) (h:GY P n c (UU P fn R) (H5 l 0) [] w):Bo P f l.toArray w R:=by
 refine (callsIn_wide (n:=3)).1 (callsIn_of_wp_marks hf hb tQ (wpIn_wide.2 ?_));have h1:=h _ (Jg hl);rw[← hn] at h1;intro b k cs;obtain⟨e,a',w',hq,harr⟩:=h1 b k cs;refine⟨e,a',w',?_,harr⟩
 have key:∀σ ds,St fn.ntmps σ ds a'→(∃D,ds=[{target:=.collected D,args:=#[]}]∧w'.heap[D]?=some (.deferred (some []))∧∃v,SA P fn σ (w'.putObj D (.deferred none)) v∧R v (w'.putObj D (.deferred none)))→LeavesInM Fence.wide 3 P fn a'.tmps (λe w'=>∃v,e=.returned v∧R v w') a'.defers .returning w':=λσ ds hs ⟨D,hD,hw,v,hv,hR⟩=>by
   rw[hs.defs,hD];exact⟨by simp,.inl ⟨D,_,rfl,run_takeDeferred hw,v,hv a'.tmps hs.val,v,rfl,hR⟩⟩
 cases e with
 |normal=>obtain⟨σ,ds,hs,h2⟩:=hq;exact key σ ds hs h2
 |ret=>obtain⟨σ,ds,hs,h2⟩:=hq;exact key σ ds hs h2
 |exit i=>obtain⟨σ,ds,hs,h2⟩:=hq;exact h2.elim
 |goto i=>obtain⟨σ,ds,hs,h2⟩:=hq;exact h2.elim
 |panic c=>obtain⟨σ,ds,hs,h2⟩:=hq;exact h2.elim
 |outgrown=>exact hq.elim
end
variable {X:Cx}{f:Fq}{fid:FuncId}{Fs:List (World→Fq→Prop)}{B:List FB}{H:List HB}{l:List Value}{R0:Value→World→Prop}
theorem vD{P:Program}{n:Nat}{R:List RB}{fn:Func}{c:Code}{w:World}(hf:P.funcs[fid]?=some fn)(hb:fn.body=some c)(hn:fn.ntmps=n)(hl:Nat.ble l.length n=true)(hM:AO X w f H R B Fs)
   (h:A3 P n (UU P fn R0) [] X R B Fs (.code c) [] (H5 l 0) H):Bo P fid l.toArray w R0:=lY hf hb hn hl (h w f hM)
end Go.SW
namespace Go.SP
open Go.SW Go.RowKit
def Ty.list:Ty→List T1
 |.nil=>[]
 |.var n r=>.var n::r.list
 |.con tx k r=>.con tx k::r.list
theorem Ty.list_cons(t:T1)(r:Ty):(t.cons r).list=t::r.list:=by cases t <;> rfl
theorem Ty.list_len:∀k:Ty,k.list.length=k.len
 |.nil=>rfl
 |.var _ r=>congrArg (· + 1) (Ty.list_len r)
 |.con _ _ r=>congrArg (· + 1) (Ty.list_len r)
theorem Ty.list_get:∀(k:Ty)(i:Nat),k.list[i]?=k.get i
 |.nil,_=>by simp[Ty.list,Ty.get]
 |.var _ _,0=>rfl
 |.con _ _ _,0=>rfl
 |.var _ r,i+1=>by simpa[Ty.list,Ty.get] using Ty.list_get r i
 |.con _ _ r,i+1=>by simpa[Ty.list,Ty.get] using Ty.list_get r i
def fA(t:T1)(l:List T1):T1:=l.foldl (λt x=>.con El (x.cons t.one)) t
theorem QN(t:T1)(l:List T1)(x:T1):fA t (l++[x])=.con El (x.cons (fA t l).one):=by simp[fA]
theorem N0(t u:T1)(r:Ty):Hj (t.cons (u.cons r))=.con El (t.cons (Hj (u.cons r)).one):=by cases t <;> cases u <;> rfl
theorem Pg(t:T1):Hj t.one=t:=by cases t <;> rfl
theorem aW:∀(n:Nat)(k:Ty)(t:T1),k.len=n+1→k.get n=some t→fA t (k.list.take n).reverse=Hj k:=by
 intro n
 induction n with
 |zero =>
   intro k t hl hg;obtain⟨u,r,rfl⟩:=Ty.cases1 k oM;rw[T1.len_cons] at hl;obtain rfl:=Ty.len0 (k:=r) oM;have:u=t:=by cases u <;> (simp[T1.cons,Ty.get] at hg;exact hg)
   subst this;rw[show (List.take 0 (u.cons Ty.nil).list).reverse=[] by simp];exact (Pg u).symm
 |succ n ih =>
   intro k t hl hg;obtain⟨u,r,rfl⟩:=Ty.cases1 k oM;rw[T1.len_cons] at hl;have hg2:r.get n=some t:=by cases u <;> exact hg
   have h:=ih r t oM hg2;obtain⟨v,r,rfl⟩:=Ty.cases1 r oM;rw[N0,Ty.list_cons,List.take_succ_cons,List.reverse_cons,QN,h]
abbrev qH(w:World)(f:Fq)(k:Ty):={x:Nat×T1×Option Addr×Nat // k.get x.1=some x.2.1∧Ak w f x.2.1.kids x.2.2.1 x.2.2.2}
def qD{w:World}{f:Fq}{k:Ty}(x:qH w f k):Array Value:=#[.int .i64 (x.1.1:Int),tV x.1.2.1 x.1.2.2.1 x.1.2.2.2]
def ZX{w:World}{f:Fq}{k:Ty}(l:List (qH w f k)):List T1:=l.map λx=>x.1.2.1
def kY(n0 b3:Nat)(W W':World):Prop:=∀k,k<n0→k≠b3→W'.heap[k]?=W.heap[k]?
def iv(i:Nat):Int:=(i:Int)-1
theorem bE(i:Nat):iv (i+1)=(i:Int):=by unfold iv;omega
def nrm(n0:Nat)(V:World)(f:Fq):Fq:=λb=>if b<n0 then f b else if (match V.heap[b]? with|some o=>o.isCells|none=>false) then f b else 0
variable {σ:Bb}{l:List Value}{b i n0 off:Nat}{M:Nat→Prop}{hi x:Operand}{P:Program}{T e ty:TypeId}
theorem Cs.nrm{V:World}{f:Fq}(h:Cs V f b off l):Cs V (nrm n0 V f) b off l:=λj v hj=>by
 obtain⟨h1,h2⟩:=h j v hj;refine⟨?_,h2⟩;obtain⟨o,ho,hc⟩:=cells_of_cell h2;unfold SP.nrm
 split
 · exact h1
 · simp only at ho
   rw[ho];simp only;rw[if_pos hc];exact h1
theorem Ir.nrm{V:World}{f:Fq}:∀(k:Ty)(b off:Nat),Ir V f k b off→Ir V (nrm n0 V f) k b off
 |.nil,_,_,_=>trivial
 |.var _ r,b,off,⟨⟨a,c,h⟩,h2⟩=>⟨⟨a,c,Cs.nrm h⟩,Ir.nrm r b _ h2⟩
 |.con _ k r,b,off,⟨⟨a,c,h,hl,hk⟩,h2⟩=>⟨⟨a,c,Cs.nrm h,hl,hk.imp id λ⟨b',off',e,hk⟩=>⟨b',off',e,Ir.nrm k b' off' hk⟩⟩,Ir.nrm r b _ h2⟩
theorem Ak.nrm{V:World}{f:Fq}{k:Ty}{a:Option Addr}{c:Nat}(h:Ak V f k a c):Ak V (nrm n0 V f) k a c:=⟨h.1,h.2.imp id λ⟨b,off,e,hk⟩=>⟨b,off,e,Ir.nrm k b off hk⟩⟩
theorem dK{V:World}{f:Fq}(h:b<n0):nrm n0 V f b=f b:=if_pos h
theorem IE{V:World}{f:Fq}(h:f b=0):nrm n0 V f b=0:=by
 unfold nrm;simp[h]
structure Tv(w:World)(f:Fq)(b2 b3:Nat)(z:List Value)(TT:TypeId)(t:T1)(V:World)(f2:Fq)(a:Option Addr)(c:Nat):Prop where
 exm:C2 (λ_=>False) w f V f2
 k3:AI V b3 (tC t a c) TT
 k2:AI V b2 z TT
 ty:Ak V f2 t.kids a c
 bnd:t.bnd
 z3:f2 b3=0∧f2 b2=0
 hz:∀r o,V.heap[r]?=some o→o.isCells=false→w.heap.size≤r→f2 r=0
theorem UP{w V:World}{f f2:Fq}(h:C2 M w f V f2):C2 M w f V (nrm w.heap.size V f2):=⟨h.stp,λb hb=>(dK hb).trans (h.old b hb),λb hb=>IE (h.val b hb)⟩
theorem Z7{w V:World}{f2:Fq}:∀r o,V.heap[r]?=some o→o.isCells=false→w.heap.size≤r→nrm w.heap.size V f2 r=0:=λr o ho hc hr=>by
 unfold nrm;rw[if_neg (by omega),ho];simp[hc]
theorem C2.trans0{w V V':World}{f f2 f3:Fq}(h:C2 (λ_=>False) w f V f2)(h2:C2 M V f2 V' f3)(hM:∀b,M b→w.heap.size≤b):C2 (λ_=>False) w f V' f3 :=
 ⟨⟨h2.stp.os.trans h.stp.os,h2.stp.tape.trans h.stp.tape,h2.stp.output.trans h.stp.output,Nat.le_trans h.stp.size h2.stp.size,λk hk _=>(h2.stp.block k (Nat.lt_of_lt_of_le hk h.stp.size) (λhm=>by have:=hM k hm;omega)).trans (h.stp.block k hk (λh=>h))⟩,
   λb hb=>(h2.old b (Nat.lt_of_lt_of_le hb h.stp.size)).trans (h.old b hb),h2.val⟩
section
variable{w V V':World}{f f2 f3:Fq}{b2 b3:Nat}{z:List Value}{TT:TypeId}{t t':T1}{a a':Option Addr}{c c':Nat}
theorem Tv.step(h:Tv w f b2 b3 z TT t V f2 a c)(h3:w.heap.size≤b3)(hne:b2≠b3)(hE:C2 (λb=>b=b3) V f2 V' f3)(hb:AI V' b3 (tC t' a' c') TT)(hT:Ak V' f3 t'.kids a' c')(hbd:t'.bnd):Tv w f b2 b3 z TT t' V' (nrm w.heap.size V' f3) a' c' where
 exm:=UP (C2.trans0 h.exm hE λb e=>e▸h3)
 k3:=hb
 k2:=(hE.stp.block b2 h.k2.lt hne).trans h.k2
 ty:=Ak.nrm hT
 bnd:=hbd
 z3:=⟨IE ((hE.old _ h.k3.lt).trans h.z3.1),IE ((hE.old _ h.k2.lt).trans h.z3.2)⟩
 hz:=Z7
theorem Hw(h:AI V b l T){o:Obj}(ho:V.heap[b]?=some o)(hc:o.isCells=false):False:=by
 have h':V.heap[b]?=some (.cells l.toArray T):=h;rw[h'] at ho;cases ho;cases hc
theorem Tv.own{B:Nat}(hB:w.heap.size≤B){row:Option Nat}(h:Tv w f b2 b3 z TT t V f2 a c)(hg:V.grownBy V' row)(hr:∀r,row=some r→B≤r∧∃o:Obj,V.heap[r]?=some o∧o.isCells=false):Tv w f b2 b3 z TT t V' f2 a c:=by
 have hne:∀{b:Nat}{l:List Value}{T:TypeId},AI V b l T→some b≠row:=λhb e=>by
   obtain⟨_,o,ho,hc⟩:=hr _ e.symm;exact Hw hb ho hc
 have hfr:∀r,row=some r→f2 r=0:=λr e=>by
   obtain⟨h1,o,ho,hc⟩:=hr r e;exact h.hz r o ho hc oM
 have hF:Hp V f2 V' f2:=λb=>⟨Nat.le_refl _,λk hk=>by
   have hlt:b<V.heap.size:=by
     rcases Nat.lt_or_ge b V.heap.size with hh|hh
     · exact hh
     · have:=h.exm.val b hh;omega
   refine Di (hg.block b hlt λe=>?_) k;have:=hfr b e.symm;omega⟩
 exact {exm:=⟨⟨hg.os.trans h.exm.stp.os,hg.tape.trans h.exm.stp.tape,hg.output.trans h.exm.stp.output,Nat.le_trans h.exm.stp.size hg.size,λk hk hm=>(hg.block k (Nat.lt_of_lt_of_le hk h.exm.stp.size) (λe=>by have:=(hr k e.symm).1;omega)).trans (h.exm.stp.block k hk hm)⟩,h.exm.old,λb hb=>h.exm.val b (Nat.le_trans hg.size hb)⟩,
         k3:=(hg.block _ h.k3.lt (hne h.k3)).trans h.k3,
         k2:=(hg.block _ h.k2.lt (hne h.k2)).trans h.k2,
         ty:=Ak.mono _ _ _ _ h.ty hF,
         bnd:=h.bnd,z3:=h.z3,
         hz:=λr o ho hc hw=>by
           rcases Nat.lt_or_ge r V.heap.size with hh|hh
           · by_cases e:some r=row
             · exact hfr r e.symm
             · rw[hg.block r hh e] at ho;exact h.hz r o ho hc hw
           · exact h.exm.val r hh}
end
theorem KeepsFrom.of_exm{B b3:Nat}{V V':World}{f2 f3:Fq}(hE:C2 (λb=>b=b3) V f2 V' f3)(hb:AI V b3 l T):KeepsFrom B V V' :=
 ⟨hE.stp.size,λk o _ ho hc=>(hE.stp.block k (Array.getElem?_eq_some_iff.1 ho).1 (λe=>by subst e;exact Hw hb ho hc)).trans ho⟩
theorem kY.of_exm{b3:Nat}{V V':World}{f2 f3:Fq}(hE:C2 (λb=>b=b3) V f2 V' f3)(hn:n0≤V.heap.size):kY n0 b3 V V':=λk hk hne=>hE.stp.block k oM hne
theorem Z0{w:World}{f:Fq}{x t:T1}{xa ta:Option Addr}{xc tc:Nat}(h:Cs w f b 0 (tC x xa xc++tC t ta tc))(hx:Ak w f x.kids xa xc)(ht:Ak w f t.kids ta tc):Ak w f (x.cons t.one) (some ⟨b,0,none⟩) 2:=by
 have h1:Be w f Ty.nil []:=rfl;have h2:=Be.snoc (t:=t) ht (Be.snoc (t:=x) hx h1)
 have e:(Ty.nil.snoc x).snoc t=x.cons t.one:=by
   show (x.one).app t.one=_;rw[T1.one_app]
 rw[e] at h2;exact Be.toF h2 h (by simp[T1.len_cons,T1.one,Ty.len])
theorem Tv.frz{w V:World}{f f2:Fq}{b2 b3 b5:Nat}{z:List Value}{TT:TypeId}{t:T1}{a:Option Addr}{c:Nat}(h:Tv w f b2 b3 z TT t V f2 a c)(h5:AI V b5 l T)(hn2:b5≠b2)(hn3:b5≠b3)(hw:w.heap.size≤b5) :
   Tv w f b2 b3 z TT t V (λb=>if b=b5 then max l.length (f2 b) else f2 b) a c∧Cs V (λb=>if b=b5 then max l.length (f2 b) else f2 b) b5 0 l:=by
 have hF:Hp V f2 V (λb=>if b=b5 then max l.length (f2 b) else f2 b):=λb=>⟨by simp only;split <;> omega,λ_ _=>rfl⟩
 refine⟨{exm:=⟨h.exm.stp,λb hb=>by rw[if_neg (by omega)];exact h.exm.old b hb,λb hb=>by have:=h5.lt;rw[if_neg (by omega)];exact h.exm.val b hb⟩,
           k3:=h.k3,k2:=h.k2,ty:=Ak.mono _ _ _ _ h.ty hF,bnd:=h.bnd,z3:=by rw[if_neg (Ne.symm hn3),if_neg (Ne.symm hn2)];exact h.z3,
           hz:=λr o ho hc hw=>by
             rw[if_neg (λe=>by subst e;exact Hw h5 ho hc)];exact h.hz r o ho hc hw},λj v hj=>?_⟩
 have hlt:j<l.length:=(List.getElem?_eq_some_iff.1 hj).1;refine⟨by simp only[if_true];omega,?_⟩;have h5':V.heap[b5]?=some (.cells l.toArray T):=h5;simp[World.cell?,h5',hj]
theorem Ns{w:World}{k:Nat}{z:Int}{k1:IntKind}{a:Option Addr}{len cap:Nat}(hz:z=(i:Int))(hx:ev σ x=some (.slice a len cap))(hhi:ev σ hi=some (.int k1 z))(hs:Ip P T=some (e,k))(hle:i≤cap):AG P σ (.slice T x none (some hi) none) ty w (.slice a i cap) w:=by
 subst hz;exact Ux hx hhi hs hle
theorem Tv.fin{w V V':World}{f f2:Fq}{b2 b3 D:Nat}{z:List Value}{TT:TypeId}{t:T1}{a:Option Addr}{c:Nat}(h:Tv w f b2 b3 z TT t V f2 a c)(h2:w.heap.size≤b2)(hD:w.heap.size≤D)(hK:V.heap[D]?=some (.deferred (some [])))(hC:FZ b2 V V') :
   C2 (λ_=>False) w f (V'.putObj D (.deferred none)) f2∧Ak (V'.putObj D (.deferred none)) f2 t.kids a c∧V'.heap[D]?=some (.deferred (some []))∧D≠b2:=by
 have hne:D≠b2:=λe=>by subst e;exact Hw h.k2 hK rfl
 have hf:f2 D=0:=h.hz D _ hK rfl hD;have hblk:∀j,j≠D→j≠b2→(V'.putObj D (.deferred none)).heap[j]?=V.heap[j]?:=λj h1 h3=>(World.putObj_heap_other h1).trans (hC.block j h3);have hsz:(V'.putObj D (.deferred none)).heap.size=V.heap.size:=by rw[World.putObj_size,hC.size]
 refine⟨⟨⟨hC.os.trans h.exm.stp.os,hC.tape.trans h.exm.stp.tape,hC.output.trans h.exm.stp.output,by rw[hsz];exact h.exm.stp.size,λj hj hm=>(hblk j oM oM).trans (h.exm.stp.block j hj hm)⟩,h.exm.old,λb hb=>h.exm.val b (by rw[hsz] at hb;exact hb)⟩,?_,(hC.block D hne).trans hK,hne⟩;refine Ak.mono _ _ _ _ h.ty λb=>⟨Nat.le_refl _,λq hq=>Di (hblk b (λe=>?_) (λe=>?_)) q⟩
 · rw[e,hf] at hq;omega
 · rw[e,h.z3.2] at hq;omega
end Go.SP
namespace Go.SW
open Go.RowKit
variable {X:Cx}{f:Fq}{Fs:List (World→Fq→Prop)}{B:List FB}{H H':List HB}{w:World}
theorem AO.perm{R:List RB}(h:AO X w f H R B Fs)(hp:H'.Perm H):AO X w f H' R B Fs:=by
 have hp2:(C6 H' R).Perm (C6 H R):=(hp.map _).append_right _
 exact {h with
         blk:=λe he=>h.blk e (hp.mem_iff.1 he),
         nd:=hp2.nodup_iff.2 h.nd,
         own:=λb hb=>h.own b (hp2.mem_iff.1 hb),
         hnw:=λe he=>h.hnw e (hp.mem_iff.1 he)}
end Go.SW
namespace Go.SP
open Go.SW Go.RowKit
abbrev pX(n:Nat)(s:CS)(e:Ba)(op ln co:Int)(tx:lU)(nm:Int)(kids:Nd)(x:(T1×Option Addr×Nat)×CS):Prop:=Cc n s e op ln co tx nm kids=.ok (x.1.1,x.2)∧x.1.1.bnd∧D0 x.2∧x.2.fresh+1≤s.fresh+200002*(kids.size+1)
def Wn(P:Program)(fid:FuncId)(TE T TS:TypeId)(n:Nat):Prop:=∀(w:World)(f:Fq)(_:Vl w f)(A:Ad)(_:A.ok)(s:CS)(_:As T TS A s w f)(_:∀b,By A b→f b=0)(_:D0 s)(op ln co nm:Int)(tx:lU)(kids:Nd)(na:Option Addr)(nc:Nat)(e:Ba)(ea:Option Addr),
 kids.size<n→kids.size≤200000→Gu op kids→AD w f kids na nc→F8 e→AF w f e ea→s.fresh+200002*(kids.size+1)≤800000000000 →
 BB P fid #[.pointer (some ⟨A.cb,0,none⟩),nV op ln co tx nm kids na nc,.pointer ea] w (ED (α:=(T1×Option Addr×Nat)×CS) (λx=>tV x.1.1 x.1.2.1 x.1.2.2) (pX n s e op ln co tx nm kids) (By A) (λx=>As T TS A x.2) (λx=>[λw f=>Ak w f x.1.1.kids x.1.2.1 x.1.2.2]) w f)
   (PanE TE (By A) (λer=>Cc n s e op ln co tx nm kids=.error er) w f)
section
variable{p:LF}{s s1 s2 s3 s4 s5:CS}{e e5:Ba}{op ln co nm bop bln bco bnm o1 l1 c1 m1:Int}{tx btx x1:lU}{k bk r pk rest:Nd}{d:Ty}{q t t0 rt pt:T1}{n:Nat}
theorem QO:Ec p e s k=(match Ec p e s k with|.error x=>.error x|.ok (l,s3)=>.ok (Ty.nil.app l,s3)):=by
 cases Ec p e s k with
 |error x=>rfl
 |ok q=>rfl
theorem SE(h:p s e op ln co tx nm k=.ok (q,s5)) :
   (match Ec p e s (.cons op ln co tx nm k r) with|.error x=>.error x|.ok (l,s3)=>.ok (d.app l,s3):RI (Ty×CS))=(match Ec p e s5 r with|.error x=>.error x|.ok (l,s3)=>.ok ((d.snoc q).app l,s3)):=by
 rw[Ec,h];simp only
 cases Ec p e s5 r with
 |error x=>rfl
 |ok z=>obtain⟨l,s3⟩:=z;simp only[Ty.snoc_app]
variable {ar:Ty}
theorem Ut{a:T1}(h:p s e op ln co tx nm k=.ok (q,s5))(h2:EO s5 a q ln co=.ok s4):FY p e s (a.cons ar) (.cons op ln co tx nm k r)=FY p e s4 ar r:=by
 rw[FY,h];simp only;rw[T1.hd_cons,h2];simp only;rw[T1.tl_cons]
theorem Wa(h:p s e op ln co tx nm k=.ok (q,s5))(h2:EO (A7 s5).2 t (.con El (q.cons (A7 s5).1.one)) ln co=.ok s4):J4 p e s t (.cons op ln co tx nm k r)=J4 p e s4 (A7 s5).1 r:=by
 rw[J4,h];simp only;rw[h2]
theorem Uh(h1:Cp n s e op ln co tx nm pk=.ok (q,e5,s1))(h2:EO s1 pt q ln co=.ok s2)(h3:p s2 e5 bop bln bco btx bnm bk=.ok (rt,s3))(h4:EO s3 t0 rt bln bco=.ok s4) :
   Dx n p e pt s (some t0) (.cons o1 l1 c1 x1 m1 (.cons op ln co tx nm pk (.cons bop bln bco btx bnm bk rest)) r)=Dx n p e pt s4 (some t0) r:=by
 rw[Dx];simp only;rw[h1];simp only;rw[h2];simp only;rw[h3];simp only;rw[h4]
theorem Ui(h1:Cp n s e op ln co tx nm pk=.ok (q,e5,s1))(h2:EO s1 pt q ln co=.ok s2)(h3:p s2 e5 bop bln bco btx bnm bk=.ok (rt,s3)) :
   Dx n p e pt s none (.cons o1 l1 c1 x1 m1 (.cons op ln co tx nm pk (.cons bop bln bco btx bnm bk rest)) r)=Dx n p e pt s3 (some rt) r:=by
 rw[Dx];simp only;rw[h1];simp only;rw[h2];simp only;rw[h3]
end
variable {m:Nat}
theorem Ct{k:Nd}(h:k.wfm m)(hm:2≤m∧m≤8):∃op ln co tx nm k2 r,k=.cons op ln co tx nm k2 r:=by
 cases k with
 |nil=>rcases h with h|h|h <;> omega
 |cons op ln co tx nm k2 r=>exact⟨op,ln,co,tx,nm,k2,r,rfl⟩
variable {f:Fq}{m:Nat}{lo x:Operand}{a:Option Addr}{T ty:TypeId}{w:World}
theorem AD.rest{op ln co nm:Int}{tx:lU}{k r:Nd}{c:Nat}(h:AD w f (.cons op ln co tx nm k r) a c):AD w f r (EM a c 6) (c-1):=by
 obtain⟨h1,h2⟩:=h;have h1:r.len+1≤c:=h1;refine⟨oM,?_⟩;rcases h2 with h2|⟨b,off,ha,hg⟩
 · cases h2
 · cases r with
   |nil=>exact .inl rfl
   |cons o2 l2 c2 x2 m2 k2 r2 =>
     simp only[Nd.len] at h1;refine .inr ⟨b,off+6,?_,hg.2⟩;rw[EM,if_neg (by omega),ha];rfl
theorem Nv{P:Program}{σ:Bb}{e:TypeId}{k len c:Nat}(hl:len=m+1)(hx:ev σ x=some (.slice a len c))(hlo:ev σ lo=some (.int .i64 1))(hs:Ip P T=some (e,k)):AG P σ (.slice T x (some lo) none none) ty w (.slice (EM a c k) m (c-1)) w:=by
 subst hl;exact UX hx hlo hs
theorem Ty.last_get:∀{k:Ty}{m:Nat},k.len=m+1→k.get m=some k.last
 |.nil,m,h=>by simp[Ty.len] at h
 |.var n .nil,m,h=>by obtain rfl:m=0:=(by simpa[Ty.len] using h.symm);rfl
 |.con tx k .nil,m,h=>by obtain rfl:m=0:=(by simpa[Ty.len] using h.symm);rfl
 |.var n (.var n2 r),m,h=>by
   obtain⟨m,rfl⟩:∃q,m=q+1:=⟨m-1,by simp only[Ty.len] at h;omega⟩;exact Ty.last_get (k:=.var n2 r) (by simp only[Ty.len] at h ⊢;omega)
 |.var n (.con tx2 k2 r),m,h=>by
   obtain⟨m,rfl⟩:∃q,m=q+1:=⟨m-1,by simp only[Ty.len] at h;omega⟩;exact Ty.last_get (k:=.con tx2 k2 r) (by simp only[Ty.len] at h ⊢;omega)
 |.con tx k (.var n2 r),m,h=>by
   obtain⟨m,rfl⟩:∃q,m=q+1:=⟨m-1,by simp only[Ty.len] at h;omega⟩;exact Ty.last_get (k:=.var n2 r) (by simp only[Ty.len] at h ⊢;omega)
 |.con tx k (.con tx2 k2 r),m,h=>by
   obtain⟨m,rfl⟩:∃q,m=q+1:=⟨m-1,by simp only[Ty.len] at h;omega⟩;exact Ty.last_get (k:=.con tx2 k2 r) (by simp only[Ty.len] at h ⊢;omega)
section
variable{s:CS}{e:Ba}{op ln co nm:Int}{tx:lU}{k r:Nd}{d:Ty}
theorem MF(hr:r≠.nil):(d.app (Fa s e (.cons op ln co tx nm k r)).1,(Fa s e (.cons op ln co tx nm k r)).2)=((d.snoc (A7 s).1).app (Fa (A7 s).2 (if op==22 then ⟨tx,(A7 s).1,[]⟩::e else e) r).1,(Fa (A7 s).2 (if op==22 then ⟨tx,(A7 s).1,[]⟩::e else e) r).2):=by
 cases r with
 |nil=>exact absurd rfl hr
 |cons o2 l2 c2 x2 m2 k2 r2 =>
   rw[Fa]
   · rw[Ty.snoc_app]
   · intro h;cases h
theorem Nd.last_step(hr:r≠.nil):(Nd.cons op ln co tx nm k r).last=r.last:=by
 cases r with
 |nil=>exact absurd rfl hr
 |cons=>rfl
end
theorem Nd.ne_nil{r:Nd}(h:0<r.len):r≠.nil:=λe=>by rw[e] at h;exact absurd h dC
theorem wN{k:Nd}(h:Gu 6 k):k.wfm 0:=by simpa[Gu] using h
theorem vZ{k:Nd}(h:Gu 7 k):k.wfm 4:=by simpa[Gu] using h
theorem wI{k:Nd}(h:Gu 8 k):0<k.len∧k.wfm 0:=by simpa[Gu] using h
theorem wB{k:Nd}(h:Gu 9 k):k.wfm 6:=by simpa[Gu] using h
theorem vA{k:Nd}(h:Gu 10 k):k.wfm 6:=by simpa[Gu] using h
theorem tI{k:Nd}(h:Gu 11 k):k.wfm 7:=by simpa[Gu] using h
theorem tU{k:Nd}(h:Gu 12 k):0<k.len∧k.wfm 0:=by simpa[Gu] using h
theorem uN{k:Nd}(h:Gu 13 k):k.wfm 0:=by simpa[Gu] using h
theorem uX{k:Nd}(h:Gu 14 k):k.wfm 5:=by simpa[Gu] using h
theorem tX{k:Nd}(h:Gu 15 k):k.wfm 5:=by simpa[Gu] using h
theorem tS{k:Nd}(h:Gu 16 k):k.wfm 3:=by simpa[Gu] using h
theorem uT{op:Int}{k:Nd}(h:Gu op k)(h1:(op==1)=false)(h2:(op==2)=false)(h3:(op==3)=false)(h4:(op==4)=false)(h5:(op==5)=false)(h6:(op==6)=false)(h7:(op==7)=false)(h8:(op==8)=false)(h9:(op==9)=false)(h10:(op==10)=false)(h11:(op==11)=false)(h12:(op==12)=false)(h13:(op==13)=false)(h14:(op==14)=false)(h15:(op==15)=false)(D4:(op==16)=false):k.wfm 3:=by
 simp only[beq_eq_false_iff_ne,ne_eq] at *;unfold Gu at h;rcases h with h|h|h|h|h|h|h|h|h
 · omega
 · exact absurd h.1 h6
 · exact absurd h.1 h7
 · rcases h.1 with h|h
   · exact absurd h h8
   · exact absurd h h12
 · rcases h.1 with h|h
   · exact absurd h h9
   · exact absurd h h10
 · exact absurd h.1 h11
 · exact absurd h.1 h13
 · rcases h.1 with h|h
   · exact absurd h h14
   · exact absurd h h15
 · exact h.2
theorem Zt:∀(n:Nat)(k:Ty),k.len≤n→k.bnd→(Hj k).bnd:=by
 intro n
 induction n with
 |zero=>intro k hk _;obtain rfl:=Ty.len0 (k:=k) oM;exact Bv 0
 |succ n ih =>
   intro k hk hb
   cases hk0:k.len with
   |zero=>obtain rfl:=Ty.len0 hk0;exact Bv 0
   |succ m =>
     obtain⟨t,r,rfl⟩:=Ty.cases1 k oM;rw[T1.len_cons] at hk;obtain⟨hb1,hb2⟩:=T1.bnd_cons.1 hb
     cases hr:r.len with
     |zero=>obtain rfl:=Ty.len0 hr;exact (Pg t).symm▸hb1
     |succ m2 =>
       have:=ih r oM hb2;obtain⟨u,r,rfl⟩:=Ty.cases1 r oM;rw[N0];exact Dc dC (by simp[T1.len_cons,T1.one,Ty.len]) (T1.bnd_cons.2 ⟨hb1,Gj this⟩)
end Go.SP
namespace Go.SW
open Go.RowKit Go.SP
section
variable{P:Program}{n:Nat}{Q:AU}{ds:List Deferred}{X:Cx}{R:List RB}{B:List FB}{Fs:List (World→Fq→Prop)}{fs:List Fr}{σ:Bb}{H:List HB}{k:JZ}{na:Option Addr}{c:Nat}
theorem tG{x r:Nd}{op ln co nm:Int}{tx:lU}{q:Nd}(j:Nat)(hj:nth Fs j=some (λw f=>AD w f x na c))(e:x=.cons op ln co tx nm q r)(h:A3 P n Q ds X R B ((λw f=>AD w f r (EM na c 6) (c-1))::Fs) k fs σ H):A3 P n Q ds X R B Fs k fs σ H:=Dl _ (λ_ _ hM=>AD.rest (e▸hM.fn hj)) AD.mono h
end
end Go.SW
namespace Go.SP
open Go.SW Go.RowKit
def Nd.txb:Nd→Prop
 |.nil=>True
 |.cons _ _ _ tx _ k r=>tx.length≤100000∧k.txb∧r.txb
def MZ(datas:List (lU×Int))(tx:lU)(kids:Nd):Bool :=
 if Dr G5 ([32]++tx++[32]) then (kids.len:Int)==0
 else if tx==El then (kids.len:Int)==2
 else if Dr Qm ([32]++tx++[32]) then true
 else match AR datas tx with|some c=>c==(kids.len:Int)|none=>false
def CE(datas:List (lU×Int))(vars:List (lU×T1))(op ln co:Int)(tx:lU)(kids:Nd):RI T1 :=
 if op==31 then (match AR vars tx with
   |some t=>.ok t
   |none=>.error (ln,co,11))
 else if MZ datas tx kids then (match FJ datas vars kids with|.error x=>.error x|.ok k=>.ok (.con tx k)) else .error (ln,co,11)
section
variable{datas:List (lU×Int)}{vars:List (lU×T1)}{op ln co nm:Int}{tx:lU}{k r:Nd}{d:Ty}{t:T1}{er:Er}
theorem Jo:FJ datas vars (.cons op ln co tx nm k r)=(match CE datas vars op ln co tx k with
   |.error x=>.error x
   |.ok t=>match FJ datas vars r with
     |.error x=>.error x
     |.ok l=>.ok (t.cons l)):=rfl
theorem Mu:FJ datas vars k=(match FJ datas vars k with|.error x=>.error x|.ok l=>.ok (Ty.nil.app l)):=by cases FJ datas vars k <;> rfl
theorem Gv(h:CE datas vars op ln co tx k=.ok t):(match FJ datas vars (.cons op ln co tx nm k r) with|.error x=>.error x|.ok l=>.ok (d.app l):RI Ty)=(match FJ datas vars r with|.error x=>.error x|.ok l=>.ok ((d.snoc t).app l)):=by
 rw[Jo,h];simp only
 cases FJ datas vars r with
 |error x=>rfl
 |ok z=>simp only[Ty.snoc_app]
theorem IS(h:CE datas vars op ln co tx k=.error er):FJ datas vars (.cons op ln co tx nm k r)=.error er:=by rw[Jo,h]
end
theorem Eg{α:Type}(g:α→Value)(n:lU):∀l:List (lU×α),Em (l.map λp=>(p.1,g p.2)) n=(AR l n).map g
 | []=>rfl
 |(k,v)::l=>by
   simp only[List.map_cons,Em,AR]
   by_cases h:k=n
   · subst h;simp
   · have e1:(k==n)=false:=by simpa using h
     have e2:(n==k)=false:=by simpa using λe:n=k=>h e.symm
     rw[e1,e2];simpa using Eg g n l
def N8(v:Value)(vars:List (lU×T1))(w:World):Prop:=(v=.map none∧vars=[])∨∃m,v=.map (some m)∧BE BI w m (vars.map λp=>(p.1,tV p.2 none 0))∧Iw (vars.map λp=>(p.1,tV p.2 none 0))∧∀n t,AR vars n=some t→∃q,t=.var q
variable {σ:Bb}{f f':Fq}{x:Operand}{P:Program}{T e ty:TypeId}{w w':World}
theorem N8.keep{v:Value}{vars:List (lU×T1)}(h:N8 v vars w)(hE:C2 (λ_=>False) w f w' f'):N8 v vars w' :=
 h.imp id λ⟨m,h1,h2,h3⟩=>⟨m,h1,h2.heap (hE.stp.block m h2.lt (λh=>h)),h3⟩
theorem mP{k:TypeId}{y:Operand}{z:Value}{a:lU}(hx:ev σ x=some (.map none))(hy:ev σ y=some (S a))(hT:FC P T=some (k,e))(hk:P.underlying k=some BI.desc)(hz:eZ P e z):AG P σ (.lookup T x y true) ty w (.tuple #[z,.bool false]) w:=λρ _ _ _ _ hρ=>by
 have hu:=Jy hT;obtain⟨i,hi,hz⟩:=QS hz;have hck:=λb=>BI.chk P k w a b hk;have hck2:∀b,(Instr.checkKey b 10000 k (S a)).run P w=.ok () w:=hck;simp[execOp,hρ _ _ hx,hρ _ _ hy,Instr.lookup,run_underlying hu,hck2,Instr.findKey,run_underlying hk,Instr.findNow,zeroValue,typeInfo,hi,hz]
def pD(P:Program)(G:World→Fq→Prop)(fid:FuncId)(TE T TS:TypeId)(n:Nat):Prop:=∀(w:World)(f:Fq)(_:Vl w f)(A:Ad)(s:CS)(_:As T TS A s w f)(_:D0 s)(_:G w f)(op ln co nm:Int)(tx:lU)(kids:Nd)(na:Option Addr)(nc:Nat)(vv:Value)(vars:List (lU×T1)),
 kids.size<n→kids.size≤200000→tx.length≤100000→kids.txb→N8 vv vars w→AD w f kids na nc →
 BB P fid #[.pointer (some ⟨A.cb,0,none⟩),nV op ln co tx nm kids na nc,vv] w (Bw (α:=T1×Option Addr×Nat) (λx=>tV x.1 x.2.1 x.2.2) (λx=>CE s.datas vars op ln co tx kids=.ok x.1∧x.1.bnd) (λx=>[λw f=>Ak w f x.1.kids x.2.1 x.2.2]) w f)
   (PanE TE (λ_=>False) (λer=>CE s.datas vars op ln co tx kids=.error er) w f)
section
variable{T TS:TypeId}{A:Ad}{s:CS}{w w':World}{f f':Fq}
variable {fr pr:Int}{ac b mb oc sb vc:Nat}{aa oa va:Option Addr}
theorem B8.chg{so:BS}(h:B8 TS sb mb so fr pr w f)(hC:FZ b w w')(h1:sb≠b)(h2:mb≠b)(hf:f b=0):B8 TS sb mb so fr pr w' f :=
 B8.stab (MI:=λk=>k=sb∨k=mb) (.inl rfl) (.inr rfl) _ _ _ _ h (FZ.fle hC hf) λk hk=>hC.block k (by rcases hk with rfl|rfl;exact h1;exact h2)
theorem As.setVars(h:As T TS A s w f)(hA:A.ok)(hC:FZ A.cb w w'){v:Int}(hb:AI w' A.cb [.pointer (some ⟨A.sb,0,none⟩),.map (some A.km),.map (some A.dm),.map (some A.rm),.int .i64 v] T)(hf:f A.cb=0):As T TS A {s with vars:=v} w' f where
 blk:=hb
 sol:=let ⟨pr,hp⟩:=h.sol;⟨pr,hp.chg hC (Ne.symm hA.cs) (Ne.symm hA.cm.1) hf⟩
 cons:=let ⟨es,h1,h2⟩:=h.cons;⟨es,h1.heap (hC.block _ (Ne.symm hA.cm.2.1)),BT.mono (FZ.fle hC hf) _ _ h2⟩
 datas:=h.datas.heap (hC.block _ (Ne.symm hA.cm.2.2.1))
 roots:=h.roots.heap (hC.block _ (Ne.symm hA.cm.2.2.2))
theorem As.addData(h:As T TS A s w f)(hA:A.ok)(hC:FZ A.dm w w'){k:lU}{n:Int}(hm:BE BI w' A.dm ((k,.int .i64 n)::s.datas.map λp=>(p.1,.int .i64 p.2)))(hf:f A.dm=0):As T TS A {s with datas:=(k,n)::s.datas} w' f where
 blk:=(hC.block _ hA.cm.2.2.1).trans h.blk
 sol:=let ⟨pr,hp⟩:=h.sol;⟨pr,hp.chg hC hA.sm.2.2.1 hA.mm.2.1 hf⟩
 cons:=let ⟨es,h1,h2⟩:=h.cons;⟨es,h1.heap (hC.block _ hA.mm.2.2.2.1),BT.mono (FZ.fle hC hf) _ _ h2⟩
 datas:=hm
 roots:=h.roots.heap (hC.block _ (Ne.symm hA.mm.2.2.2.2.2))
theorem As.addRoot(h:As T TS A s w f)(hA:A.ok)(hC:FZ A.rm w w'){k:lU}(hm:BE BI w' A.rm ((k,.bool true)::s.roots.map λk=>(k,.bool true)))(hf:f A.rm=0):As T TS A {s with roots:=k::s.roots} w' f where
 blk:=(hC.block _ hA.cm.2.2.2).trans h.blk
 sol:=let ⟨pr,hp⟩:=h.sol;⟨pr,hp.chg hC hA.sm.2.2.2 hA.mm.2.2.1 hf⟩
 cons:=let ⟨es,h1,h2⟩:=h.cons;⟨es,h1.heap (hC.block _ hA.mm.2.2.2.2.1),BT.mono (FZ.fle hC hf) _ _ h2⟩
 datas:=h.datas.heap (hC.block _ hA.mm.2.2.2.2.2)
 roots:=hm
theorem As.addCons(h:As T TS A s w f)(hA:A.ok){es:List (lU×Value)}(hE:BT w f s.cons es)(hC:FZ A.km w w'){k:lU}{m:Mk}(hm:BE BI w' A.km ((k,.agg (ZV m aa ac oa oc va vc).toArray)::es))(hf:f A.km=0)
   (h1:Ak w f m.args aa ac) (h2:Ak w f m.out.kids oa oc) (h3:BJ w f m.vars va vc):As T TS A {s with cons:=(k,m)::s.cons} w' f where
 blk:=(hC.block _ hA.cm.2.1).trans h.blk
 sol:=let ⟨pr,hp⟩:=h.sol;⟨pr,hp.chg hC hA.sm.2.1 hA.mm.1 hf⟩
 cons:=⟨_,hm,aa,ac,oa,oc,va,vc,es,rfl,Ak.mono _ _ _ _ h1 (FZ.fle hC hf),Ak.mono _ _ _ _ h2 (FZ.fle hC hf),BJ.mono _ _ _ _ h3 (FZ.fle hC hf),BT.mono (FZ.fle hC hf) _ _ hE⟩
 datas:=h.datas.heap (hC.block _ (Ne.symm hA.mm.2.2.2.1))
 roots:=h.roots.heap (hC.block _ (Ne.symm hA.mm.2.2.2.2.1))
end
abbrev pQ(vars:List (lU×T1)):List (lU×Value):=vars.map λp=>(p.1,tV p.2 none 0)
def DU(T TS:TypeId)(A:Ad)(s:CS)(vm:Nat)(vars:List (lU×T1))(w:World)(f:Fq):Prop:=As T TS A s w f∧BE BI w vm (pQ vars)
section
variable{T TS:TypeId}{A:Ad}{s:CS}{w w':World}{f f':Fq}{vm:Nat}{vars:List (lU×T1)}
theorem DU.stab:EV (λb=>By A b∨b=vm) (DU T TS A s vm vars):=λw f w' f' h hF hb =>
 ⟨As.stab w f w' f' h.1 hF λb hm=>hb b (.inl hm),h.2.heap (hb _ (.inr rfl))⟩
variable {b:Nat}
theorem Pf{l:List (lU×Value)}(h:BE BI w vm l)(hC:FZ b w w')(hne:vm≠b):BE BI w' vm l:=h.heap (hC.block _ hne)
end
section
variable{P:Program}{n:Nat}{Q:AU}{ds:List Deferred}{M:Nat→Prop}{w0:World}{f0:Fq}{T TS:TypeId}{A:Ad}{s:CS}{vm:Nat}{vars:List (lU×T1)}{R:List RB}{B:List FB}{Fs:List (World→Fq→Prop)}{fs:List Fr}{σ:Bb}{H:List HB}
variable{all r:List Oper}{ty TM k e:TypeId}{pos:String}{af:Array Edge}{g:Option (Nat×Bool)}{x y z:Operand}
variable {ag:Bool}{ac i1 oc vc:Nat}{aa oa va:Option Addr}{vz:Value}
theorem tJ{v:Int}(hA:A.ok)(hvm:¬By A vm)(hg:gd all σ g=some true)(hx:ev σ x=some (.pointer (some ⟨A.cb,4,none⟩)))(hy:ev σ y=some (.int .i64 v))(hT:AN P TM=some (ag,1))
   (h:A3 P n Q ds ⟨M,λb=>By A b∨b=vm,DU T TS A {s with vars:=v} vm vars,w0,f0⟩ R B Fs (.ops all r) fs σ H):A3 P n Q ds ⟨M,λb=>By A b∨b=vm,DU T TS A s vm vars,w0,f0⟩ R B Fs (.ops all (⟨none,.store TM x y,ty,pos,af,g⟩::r)) fs σ H :=
 SZ (b:=A.cb) (I':=DU T TS A {s with vars:=v} vm vars) hg hx hy rfl hT rfl rfl rfl (.inl (.inl rfl)) (λw f h=>h.1.blk) (λw f w2 h hM hC hb=>⟨h.1.setVars hA hC hb (hM.mi _ (.inl (.inl rfl))).2.1,Pf h.2 hC λe=>hvm (e▸.inl rfl)⟩) DU.stab h
theorem vC{a:lU}{q:Int}(hvm:¬By A vm)(hg:gd all σ g=some true)(hx:ev σ x=some (.map (some vm)))(hy:ev σ y=some (S a))(hz:ev σ z=some (tV (.var q) none 0))(hT:FC P TM=some (k,e))(hk:P.underlying k=some .string)(hd:Iw (pQ vars))(hn:AR vars a=none)
   (h:A3 P n Q ds ⟨M,λb=>By A b∨b=vm,DU T TS A s vm ((a,.var q)::vars),w0,f0⟩ R B Fs (.ops all r) fs σ H):A3 P n Q ds ⟨M,λb=>By A b∨b=vm,DU T TS A s vm vars,w0,f0⟩ R B Fs (.ops all (⟨none,.mapUpdate TM x y z,ty,pos,af,g⟩::r)) fs σ H :=
 Xr (K:=BI) (a:=a) (l:=pQ vars) (I':=DU T TS A s vm ((a,.var q)::vars)) hg hx hy hz hT hk (.inr rfl) hd (by rw[pQ,Eg (λt=>tV t none 0),hn];rfl) (λw f h=>h.2) (λw f w2 h hM hC hm=>⟨h.1.chg hC hvm (hM.mi vm (.inr rfl)).2.1,hm⟩) DU.stab h
theorem sB{a:lU}{q:Int}(hA:A.ok)(hvm:¬By A vm)(hw:D0 s)(hg:gd all σ g=some true)(hx:ev σ x=some (.map (some A.dm)))(hy:ev σ y=some (S a))(hz:ev σ z=some (.int .i64 q))(hT:FC P TM=some (k,e))(hk:P.underlying k=some .string)(hn:AR s.datas a=none)
   (h:A3 P n Q ds ⟨M,λb=>By A b∨b=vm,DU T TS A {s with datas:=(a,q)::s.datas} vm vars,w0,f0⟩ R B Fs (.ops all r) fs σ H):A3 P n Q ds ⟨M,λb=>By A b∨b=vm,DU T TS A s vm vars,w0,f0⟩ R B Fs (.ops all (⟨none,.mapUpdate TM x y z,ty,pos,af,g⟩::r)) fs σ H :=
 Xr (K:=BI) (a:=a) (l:=s.datas.map λp=>(p.1,.int .i64 p.2)) (I':=DU T TS A {s with datas:=(a,q)::s.datas} vm vars) hg hx hy hz hT hk (.inl (.inr (.inr (.inr (.inr (.inl rfl)))))) hw.dd (by rw[Eg (λc=>Value.int .i64 c),hn];rfl) (λw f h=>h.1.datas) (λw f w2 h hM hC hm=>⟨h.1.addData hA hC hm (hM.mi _ (.inl (.inr (.inr (.inr (.inr (.inl rfl))))))).2.1,Pf h.2 hC λe=>hvm (e▸.inr (.inr (.inr (.inr (.inl rfl)))))⟩) DU.stab h
theorem sE{a:lU}{m:Mk}{i2 i3:Nat}(hA:A.ok)(hvm:¬By A vm)(hw:D0 s)(hg:gd all σ g=some true)(hx:ev σ x=some (.map (some A.km)))(hy:ev σ y=some (S a))(hz:ev σ z=some vz)(hvz:vz=.agg (ZV m aa ac oa oc va vc).toArray)(hT:FC P TM=some (k,e))(hk:P.underlying k=some .string)(hn:AR s.cons a=none)
   (hf1:nth Fs i1=some λw f=>Ak w f m.args aa ac) (hf2:nth Fs i2=some λw f=>Ak w f m.out.kids oa oc) (hf3:nth Fs i3=some λw f=>BJ w f m.vars va vc)
   (h:A3 P n Q ds ⟨M,λb=>By A b∨b=vm,DU T TS A {s with cons:=(a,m)::s.cons} vm vars,w0,f0⟩ R B Fs (.ops all r) fs σ H):A3 P n Q ds ⟨M,λb=>By A b∨b=vm,DU T TS A s vm vars,w0,f0⟩ R B Fs (.ops all (⟨none,.mapUpdate TM x y z,ty,pos,af,g⟩::r)) fs σ H:=by
 subst hvz;exact fI (λes w f=>DU T TS A s vm vars w f∧BE BI w A.km es∧BT w f s.cons es) (λw f h=>let ⟨es,h1,h2⟩:=h.1.cons;⟨es,h,h1,h2⟩) (λes w f w' f' h hF hb=>⟨DU.stab w f w' f' h.1 hF hb,h.2.1.heap (hb _ (.inl (.inr (.inr (.inr (.inl rfl)))))),BT.mono hF _ _ h.2.2⟩) λes=>Io (λw f hM=>(show Iw es from BT.dis hM.res.2.2 hw.dc)) λhdis=>Io (λw f hM=>(show Em es a=none from (BT.look hM.res.2.2).1 hn)) λhlk=>Xr (K:=BI) (a:=a) (l:=es) (I':=DU T TS A {s with cons:=(a,m)::s.cons} vm vars) hg hx hy hz hT hk (.inl (.inr (.inr (.inr (.inl rfl))))) hdis hlk (λw f h=>h.2.1) (λw f w2 h hM hC hm=>⟨h.1.1.addCons hA h.2.2 hC hm (hM.mi _ (.inl (.inr (.inr (.inr (.inl rfl)))))).2.1 (hM.fact hf1) (hM.fact hf2) (hM.fact hf3),Pf h.1.2 hC λe=>hvm (e▸.inr (.inr (.inr (.inl rfl))))⟩) DU.stab h
end
theorem DE{α:Type}{a b:lU}{v:α}{l:List (lU×α)}:AR ((a,v)::l) b=if a==b then some v else AR l b:=rfl
theorem II{α:Type}(g:α→Value){a:lU}{v:α}{l:List (lU×α)}(h:Iw (l.map λp=>(p.1,g p.2)))(hn:AR l a=none):Iw (((a,v)::l).map λp=>(p.1,g p.2)):=⟨by rw[Eg,hn];rfl,h⟩
theorem D0.addData{s:CS}(h:D0 s){a:lU}{q:Int}(hn:AR s.datas a=none):D0 {s with datas:=(a,q)::s.datas}:={h with dd:=II (λc=>Value.int .i64 c) h.dd hn}
theorem D0.setVars{s:CS}(h:D0 s){v:Int}:D0 {s with vars:=v}:={h with}
theorem D0.addCons{s:CS}(h:D0 s){a:lU}{m:Mk}(hn:AR s.cons a=none)(hm:m.args.len≤200000∧m.args.bnd∧m.out.bnd∧m.vars.length≤200000):D0 {s with cons:=(a,m)::s.cons} :=
 {h with
   cons:=λk m' hk=>by
     rw[DE] at hk
     split at hk
     · cases hk;exact hm
     · exact h.cons k m' hk,
   dc:=II (λ_=>Value.bool true) h.dc hn}
section
variable{ln co:Int}{op ln2 co2 nm:Int}{tx:lU}{k r:Nd}{v:Int}{m:List (lU×T1)}{self:Ty}{nums:List Int}
theorem JD(h:(op==31)=true)(hn:AR m tx=none):DX ln co (.cons op ln2 co2 tx nm k r) v m self nums=DX ln co r (v-1) ((tx,.var (v-1))::m) (self.snoc (.var (v-1))) (nums++[v-1]):=by
 rw[DX,if_pos h,if_neg (by rw[hn];decide)]
theorem TG(h:(op==31)=true){t:T1}(hn:AR m tx=some t):DX ln co (.cons op ln2 co2 tx nm k r) v m self nums=.error (ln,co,11):=by
 rw[DX,if_pos h,if_pos (by rw[hn];rfl)]
theorem Sm(h:(op==31)=false):DX ln co (.cons op ln2 co2 tx nm k r) v m self nums=DX ln co r v m self nums:=by
 rw[DX,if_neg (by rw[h];decide)]
variable{datas:List (lU×Int)}{out:T1}{c:List (lU×Mk)}
theorem Tb(h:(op==42)=true)(hn:AR c tx=none){args:Ty}(ha:FJ datas m k=.ok args):D2 datas m out nums (.cons op ln2 co2 tx nm k r) c=D2 datas m out nums r ((tx,⟨args,out,nums⟩)::c):=by
 rw[D2,if_pos h,if_neg (by rw[hn];decide),ha]
theorem P6(h:(op==42)=true){mk:Mk}(hn:AR c tx=some mk):D2 datas m out nums (.cons op ln2 co2 tx nm k r) c=.error (ln2,co2,11):=by
 rw[D2,if_pos h,if_pos (by rw[hn];rfl)]
theorem Ms(h:(op==42)=true)(hn:AR c tx=none){er:Er}(ha:FJ datas m k=.error er):D2 datas m out nums (.cons op ln2 co2 tx nm k r) c=.error er:=by
 rw[D2,if_pos h,if_neg (by rw[hn];decide),ha]
theorem RP(h:(op==42)=false):D2 datas m out nums (.cons op ln2 co2 tx nm k r) c=D2 datas m out nums r c:=by
 rw[D2,if_neg (by rw[h];decide)]
end
abbrev QT:=lU×Int×T1
def pC(p:QT)(a:Option Addr)(c:Nat):List Value:=S p.1::.int .i64 p.2.1::tC p.2.2 a c
def CI(w:World)(f:Fq):List QT→List Value→Prop
 | [],xs=>xs=[]
 |p::l,xs=>∃a c xs',xs=pC p a c++xs'∧Ak w f p.2.2.kids a c∧CI w f l xs'
theorem CI.mono'{w w':World}{f f':Fq}(hF:Hp w f w' f'):∀(l:List QT)(xs:List Value),CI w f l xs→CI w' f' l xs
 | [],_,h=>h
 |_::l,_,⟨a,c,xs',h1,h2,h3⟩=>⟨a,c,xs',h1,Ak.mono _ _ _ _ h2 hF,CI.mono' hF l xs' h3⟩
theorem CI.snoc{w:World}{f:Fq}{p:QT}{a:Option Addr}{c:Nat}(hp:Ak w f p.2.2.kids a c):∀{l:List QT}{xs:List Value},CI w f l xs→CI w f (l++[p]) (xs++pC p a c)
 | [],xs,h=>by
   have h:xs=[]:=h;subst h;exact⟨a,c,[],by simp,hp,rfl⟩
 |q::l,xs,⟨a',c',xs',h1,h2,h3⟩=>⟨a',c',xs'++pC p a c,by rw[h1,List.append_assoc],h2,CI.snoc hp h3⟩
theorem CI.len{w:World}{f:Fq}:∀{l:List QT}{xs:List Value},CI w f l xs→xs.length=l.length*6
 | [],xs,h=>by have h:xs=[]:=h;subst h;rfl
 |p::l,xs,⟨a,c,xs',h1,h2,h3⟩=>by
   have:=CI.len h3;subst h1;simp only[List.length_append,List.length_cons,pC,tC,List.length_nil];omega
theorem CI.mono{l:List QT}{xs:List Value}:Fc (λw f=>CI w f l xs):=λ_ _ _ _ h hF=>CI.mono' hF l xs h
def M1(ob:Nat)(a:Option Addr)(b:Nat):Prop:=b=ob∨rb a=some b
structure DG(T E:TypeId)(ob:Nat)(sl:Value)(a:Option Addr)(c n:Nat)(xs:List Value)(w:World)(_:Fq):Prop where
 blk:AI w ob [sl] T
 row:BP w E 6 a c n xs
 ne:rb a≠some ob
section
variable{T E:TypeId}{ob:Nat}{sl sl':Value}{a a':Option Addr}{c c' n n':Nat}{xs xs':List Value}{w w':World}{f f':Fq}
theorem DG.stab:EV (M1 ob a) (DG T E ob sl a c n xs):=λw f w' f' h hF hb=>⟨(hb _ (.inl rfl)).trans h.blk,⟨h.row.1,h.row.2.imp id λ⟨b,l,h1,h2,h3⟩=>⟨b,l,h1,(hb b (.inr (by rw[h1];rfl))).trans h2,h3⟩⟩,h.ne⟩
variable {b:Nat}
theorem DG.lt(h:DG T E ob sl a c n xs w f)(hb:M1 ob a b):b<w.heap.size:=by
 rcases hb with rfl|hb
 · exact h.blk.lt
 · exact h.row.lt hb
theorem DG.app(h:DG T E ob sl a c n xs w f)(hr:BP w' E 6 a' c' n' xs')(hG:EB a w a' w'):DG T E ob sl a' c' n' xs' w' f' :=
 ⟨h.blk.grow hG (λe=>h.ne e.symm),hr,λe=>hG.own.elim (λo=>h.ne (o.symm.trans e)) (λo=>absurd h.blk.lt (by rw[← Option.some.inj (o.symm.trans e)];exact Nat.lt_irrefl _))⟩
theorem DG.store(h:DG T E ob sl a c n xs w f)(hC:FZ ob w w')(hb:AI w' ob [sl'] T):DG T E ob sl' a c n xs w' f':=⟨hb,BP.chgB h.row hC h.ne,h.ne⟩
theorem M1.or(h:M1 ob a' b):M1 ob a b∨rb a'=some b:=h.elim (λh=>.inl (.inl h)) .inr
end
def Sp:List (T1×Option Addr×Nat)→Ty
 | []=>.nil
 |t::l=>t.1.cons (Sp l)
def nX:List (T1×Option Addr×Nat)→List Value
 | []=>[]
 |t::l=>tC t.1 t.2.1 t.2.2++nX l
def sY(w:World)(f:Fq):List (T1×Option Addr×Nat)→Prop
 | []=>True
 |t::l=>Ak w f t.1.kids t.2.1 t.2.2∧sY w f l
theorem WZ{w:World}{f:Fq}:∀{l:List (T1×Option Addr×Nat)},sY w f l→Be w f (Sp l) (nX l)
 | [],_=>rfl
 |(.var n,a,c)::l,h=>⟨a,c,nX l,rfl,WZ h.2⟩
 |(.con tx k,a,c)::l,h=>⟨a,c,nX l,rfl,h.1,WZ h.2⟩
theorem PV:∀l:List (T1×Option Addr×Nat),(Sp l).len=l.length
 | []=>rfl
 |t::l=>by rw[Sp,T1.len_cons,PV l];rfl
variable {b:Nat}{M:Nat→Prop}{w0:World}
theorem CQ{w:World}{f:Fq}{l:List (T1×Option Addr×Nat)}(h:sY w f l)(hc:Cs w f b 0 (nX l)):Ak w f (Sp l) (some ⟨b,0,none⟩) l.length:=Be.toF (WZ h) hc (by rw[PV];exact Nat.le_refl _)
def Tr(w:World)(f:Fq)(l:List QT)(a:Option Addr)(c:Nat):Prop:=l.length≤c∧∃b xs,a=some ⟨b,0,none⟩∧Cs w f b 0 xs∧CI w f l xs
theorem Tr.mono{l:List QT}{a:Option Addr}{c:Nat}:Fc (λw f=>Tr w f l a c):=λ_ _ _ _ h hF=>⟨h.1,let ⟨b,xs,h1,h2,h3⟩:=h.2;⟨b,xs,h1,h2.mono hF,CI.mono' hF l xs h3⟩⟩
theorem DG.fin{T E:TypeId}{ob:Nat}{sl:Value}{a:Option Addr}{c n:Nat}{xs:List Value}{w:World}{f0 f:Fq}{l:List QT}(h:DG T E ob sl a c n xs w f)(hE:C2 M w0 f0 w f)(hn:∀b,rb a=some b→w0.heap.size≤b)(hL:CI w f l xs)(hl:l.length=n)(h0:0<n):∃f',C2 M w0 f0 w f'∧Tr w f' l a c:=by
 rcases h.row.2 with ⟨_,_,hz⟩|⟨b,q,ha,hb,hmc,hq1,hq,ht⟩
 · omega
 · have hlt:=hb.lt
   refine⟨λk=>if k=b then max xs.length (f k) else f k,?_,oM,b,xs,ha,?_,?_⟩
   · refine⟨hE.stp,λk hk=>?_,λk hk=>?_⟩
     · have:=hn b (by rw[ha];rfl)
       rw[if_neg (by omega)];exact hE.old k hk
     · rw[if_neg (by omega)];exact hE.val k hk
   · intro j v hj
     have hjl:j<xs.length:=(List.getElem?_eq_some_iff.1 hj).1;refine⟨by simp only[if_true];omega,?_⟩;have hb':w.heap[b]?=some (.cells q.toArray _):=hb
     have hq2:q[j]?=some v:=by
       rw[← ht] at hj;rw[List.getElem?_take] at hj
       split at hj
       · exact hj
       · cases hj
     simp[World.cell?,hb',hq2]
   · exact CI.mono' (λk=>⟨by split <;> omega,λ_ _=>rfl⟩) l xs hL
end Go.SP
namespace Go.SW
open Go.RowKit
variable {top:Bool}{fs:List Fr}
theorem vF{P:Program}{n:Nat}{Q:AU}{ds:List Deferred}{X:Cx}{R:List RB}{B:List FB}{Fs:List (World→Fq→Prop)}{σ:Bb}{H:List HB}{k:JZ}(MI':Nat→Prop)(I':World→Fq→Prop)(hm:∀b,MI' b→X.MI b)(hI:∀w f,X.I w f→I' w f)(hst:EV MI' I')
   (h:A3 P n Q ds {X with MI:=MI',I:=I' } R B Fs k fs σ H):A3 P n Q ds X R B Fs k fs σ H:=λw f hM =>
 h w f {hM with
         res:=hI w f hM.res,
         stab:=hst,
         mi:=λb hb=>hM.mi b (hm b hb),
         own:=λb hb=>⟨(hM.own b hb).1,(hM.own b hb).2.1,λh=>(hM.own b hb).2.2 (hm b h)⟩}
section
variable{P:Program}{n:Nat}{Q:AU}{ds:List Deferred}{X:Cx}{R:List RB}{B:List FB}{Fs:List (World→Fq→Prop)}{l:List Oper}{Hk:List HB}{B0:List FB}{J:World→Prop}{σ:Bb}{H:List HB}
theorem KJ{α:Type}{t:OT}(t':OT)(s':α→Bb)(H':α→List HB)(B':α→List FB)(F':α→List (World→Fq→Prop))(h1:∀x,CL P n Q ds X R (B' x) (F' x) l Hk B0 J true t' (s' x) (H' x))
   (h2:(∀x,CL P n Q ds X R (B' x) (F' x) l Hk B0 J true t' (s' x) (H' x))→CL P n Q ds X R B Fs l Hk B0 J top t σ H):CL P n Q ds X R B Fs l Hk B0 J top t σ H:=h2 h1
theorem EC{α:Type}{t:OT}{s':α→Bb}{H':α→List HB}{B':α→List FB}{F':α→List (World→Fq→Prop)}(h:∀x,CL P n Q ds X R (B' x) (F' x) l Hk B0 J true t (s' x) (H' x))(x:α)(hl:Le (s' x) σ)(hM:∀w f,AO X w f H R B Fs→AO X w f (H' x) R (B' x) (F' x)):CL P n Q ds X R B Fs l Hk B0 J true t σ H :=
 λw f hm a ha=>h x w f (hM w f hm) a (ha.le hl)
end
end Go.SW
namespace Go.SP
open Go.SW Go.RowKit
section
variable{P:Program}{n:Nat}{Q:AU}{ds:List Deferred}{M:Nat→Prop}{w0:World}{f0:Fq}{T TS:TypeId}{A:Ad}{s:CS}{R:List RB}{B:List FB}{Fs:List (World→Fq→Prop)}{fs:List Fr}{σ:Bb}{H:List HB}
variable{all r:List Oper}{ty TM k e:TypeId}{pos:String}{af:Array Edge}{g:Option (Nat×Bool)}{x y z:Operand}
variable {ag:Bool}{ac i1 oc vc:Nat}{aa oa va:Option Addr}{vz:Value}
theorem uB{v:Int}(hA:A.ok)(hg:gd all σ g=some true)(hx:ev σ x=some (.pointer (some ⟨A.cb,4,none⟩)))(hy:ev σ y=some (.int .i64 v))(hT:AN P TM=some (ag,1))
   (h:A3 P n Q ds ⟨M,By A,As T TS A {s with vars:=v},w0,f0⟩ R B Fs (.ops all r) fs σ H):A3 P n Q ds ⟨M,By A,As T TS A s,w0,f0⟩ R B Fs (.ops all (⟨none,.store TM x y,ty,pos,af,g⟩::r)) fs σ H :=
 SZ (b:=A.cb) (I':=As T TS A {s with vars:=v}) hg hx hy rfl hT rfl rfl rfl (.inl rfl) (λw f h=>h.blk) (λw f w2 h hM hC hb=>h.setVars hA hC hb (hM.mi _ (.inl rfl)).2.1) As.stab h
theorem oW{a:lU}(hA:A.ok)(hw:D0 s)(hg:gd all σ g=some true)(hx:ev σ x=some (.map (some A.rm)))(hy:ev σ y=some (S a))(hz:ev σ z=some (.bool true))(hT:FC P TM=some (k,e))(hk:P.underlying k=some .string)(hn:s.roots.contains a=false)
   (h:A3 P n Q ds ⟨M,By A,As T TS A {s with roots:=a::s.roots},w0,f0⟩ R B Fs (.ops all r) fs σ H):A3 P n Q ds ⟨M,By A,As T TS A s,w0,f0⟩ R B Fs (.ops all (⟨none,.mapUpdate TM x y z,ty,pos,af,g⟩::r)) fs σ H :=
 Xr (K:=BI) (a:=a) (l:=s.roots.map λk=>(k,.bool true)) (I':=As T TS A {s with roots:=a::s.roots}) hg hx hy hz hT hk (.inr (.inr (.inr (.inr (.inr rfl))))) hw.dr (by
   have:∀l:List lU,l.contains a=false→Em (l.map λk=>(k,Value.bool true)) a=none:=by
     intro l
     induction l with
     |nil=>intro _;rfl
     |cons b l ih =>
       intro hc;rw[List.contains_cons,Bool.or_eq_false_iff] at hc;simp only[List.map_cons,Em];rw[hc.1];simpa using ih hc.2
   exact this _ hn) (λw f h=>h.roots) (λw f w2 h hM hC hm=>h.addRoot hA hC hm (hM.mi _ (.inr (.inr (.inr (.inr (.inr rfl)))))).2.1) As.stab h
theorem rI{a:lU}{m:Mk}(hA:A.ok)(hw:D0 s)(hg:gd all σ g=some true)(hx:ev σ x=some (.map (some A.km)))(hy:ev σ y=some (S a))(hz:ev σ z=some vz)(hvz:vz=.agg (ZV m aa ac oa oc va vc).toArray)(hT:FC P TM=some (k,e))(hk:P.underlying k=some .string)(hn:AR s.cons a=none)
   (hf1:nth Fs i1=some λw f=>Ak w f m.args aa ac) (hf2:m.out.kids=.nil) (hf3:m.vars=[])
   (h:A3 P n Q ds ⟨M,By A,As T TS A {s with cons:=(a,m)::s.cons},w0,f0⟩ R B Fs (.ops all r) fs σ H):A3 P n Q ds ⟨M,By A,As T TS A s,w0,f0⟩ R B Fs (.ops all (⟨none,.mapUpdate TM x y z,ty,pos,af,g⟩::r)) fs σ H:=by
 subst hvz;exact vG λes=>Io (λw f hM=>(show Iw es from BT.dis hM.res.2.2 hw.dc)) λhdis=>Io (λw f hM=>(show Em es a=none from (BT.look hM.res.2.2).1 hn)) λhlk=>Xr (K:=BI) (a:=a) (l:=es) (I':=As T TS A {s with cons:=(a,m)::s.cons}) hg hx hy hz hT hk (.inr (.inr (.inr (.inl rfl)))) hdis hlk (λw f h=>h.2.1) (λw f w2 h hM hC hm=>h.1.addCons hA h.2.2 hC hm (hM.mi _ (.inr (.inr (.inr (.inl rfl))))).2.1 (hM.fact hf1) (by rw[hf2];exact Ak.nil _ _ _ _) (by rw[hf3];exact⟨Nat.zero_le _,.inl rfl⟩)) As.stab h
end
def NJ:Nat→Ty
 |0=>.nil
 |n+1=>(NJ n).snoc (c0 bS)
theorem KE:∀n,(NJ n).len=n
 |0=>rfl
 |n+1=>by rw[NJ,Ty.len_snoc,KE n]
theorem Na:∀n,(NJ n).bnd
 |0=>trivial
 |n+1=>Ty.bnd_snoc (Na n) (CH dC)
def HC:List (lU×lU×Int×Nat):=[([70,97,108,115,101],bB,0,0),([84,114,117,101],bB,1,0),([68,105,118],bX,0,0),([77,97,116,99,104],bX,1,0),([65,98,111,114,116],bX,2,0),([75,101,101,112],bX,3,0),([79,117,116],bX,4,0),([70,97,105,108],bX,5,1)]
def vS(p:lU×lU×Int×Nat):lU×Mk:=(p.1,⟨NJ p.2.2.2,c0 p.2.1,[]⟩)
def WO(i:Nat):List (lU×Mk):=((HC.take i).map vS).reverse
variable {f:Fq}{b i:Nat}{w:World}
theorem Nc{p:lU×lU×Int×Nat}(h:HC[i]?=some p):WO (i+1)=vS p::WO i:=by
 unfold WO;rw[Cy h,List.map_append,List.reverse_append];rfl
theorem M5:∀i,i<8→∀p,HC[i]?=some p→AR (WO i) p.1=none:=by
 intro i hi p hp;have:i=0∨i=1∨i=2∨i=3∨i=4∨i=5∨i=6∨i=7:=oM;rcases this with rfl|rfl|rfl|rfl|rfl|rfl|rfl|rfl <;> (cases hp;decide)
def cC(p:lU×lU×Int×Nat):List Value:=[S p.1,S p.2.1,.int .i64 p.2.2.1,.int .i64 (p.2.2.2:Int)]
theorem Cs.flat{α:Type}(g:α→List Value)(q:Nat)(hg:∀x,(g x).length=q):∀(l:List α)(off i:Nat)(x:α),Cs w f b off (l.flatMap g)→l[i]?=some x→Cs w f b (off+i*q) (g x)
 | [],_,_,_,_,h=>by simp at h
 |y::l,off,0,x,hc,h=>by
   cases h
   rw[List.flatMap_cons] at hc;simpa using Cs.le hc
 |y::l,off,i+1,x,hc,h=>by
   rw[List.flatMap_cons] at hc;have h2:=Cs.drop hc;rw[hg] at h2;have:=Cs.flat g q hg l (off+q) i x h2 (by simpa using h);rwa[show off+q+i*q=off+(i+1)*q by rw[Nat.add_mul];omega] at this
theorem CI.get:∀{l:List QT}{xs:List Value}{off i:Nat}{p:QT},CI w f l xs→Cs w f b off xs→l[i]?=some p→∃a c,Cs w f b (off+i*6) (pC p a c)∧Ak w f p.2.2.kids a c
 | [],_,_,_,_,_,_,h=>by simp at h
 |q::l,xs,off,0,p,⟨a,c,xs',h1,h2,h3⟩,hc,h=>by
   cases h
   subst h1;exact⟨a,c,by simpa using Cs.le hc,h2⟩
 |q::l,xs,off,i+1,p,⟨a,c,xs',h1,h2,h3⟩,hc,h=>by
   subst h1;have h4:=Cs.drop hc;obtain⟨a',c',h5,h6⟩:=CI.get h3 h4 (by simpa using h);exact⟨a',c',by rwa[show off+(pC q a c).length+i*6=off+(i+1)*6 by simp only[pC,tC,List.length_cons,List.length_nil];omega] at h5,h6⟩
end Go.SP
namespace Go.SW
open Go.RowKit
def nP(K:List Nat)(Q:AU):Prop:=∀c σ σ' ds w,(∀k,k∈K→σ' k=σ k)→Q.p c σ ds w→Q.p c σ' ds w
def oA(K:List Nat):List Oper→Bool
 | []=>true
 |o::l=>(match o.dst with|some d=>!K.contains d|none=>true)&&oA K l
theorem Vb{K:List Nat}:∀{l:List Oper}{i:Nat}{o:Oper}{d:Nat},oA K l=true→l[i]?=some o→o.dst=some d→d∉K
 | [],_,_,_,_,h,_=>by simp at h
 |x::l,0,o,d,hn,h,hd=>by
   cases h
   simp only[oA,hd,Bool.and_eq_true] at hn;simpa using hn.1
 |x::l,i+1,o,d,hn,h,hd=>by
   simp only[oA,Bool.and_eq_true] at hn;exact Vb hn.2 (by simpa using h) hd
section
variable{P:Program}{n:Nat}{Q:AU}{S:World→Prop}{l:List Oper}{K:List Nat}
variable {id:Nat}{w:World}
theorem dI(hpi:nP K Q){c:List PanicEntry}{a:Act}{d:Nat}{v:Value}(hd:d∉K)(h:Q.up n (.panic c) (a.put (some d) v) w):Q.up n (.panic c) a w:=by
 obtain⟨σ,ds,hs,hq⟩:=h;refine⟨λt=>if t=d then none else σ t,ds,⟨by have:=hs.size;simpa[Act.put] using this,hs.defs,λt v' ht=>?_⟩,hpi _ _ _ _ _ (λk hk=>if_neg (c:=k=d) λe=>hd (e▸hk)) hq⟩
 by_cases e:t=d
 · simp[e] at ht
 · simp only[e,if_false] at ht
   have h1:=hs.val t v' ht;simp only[Act.put,Array.getD_eq_getD_getElem?] at h1 ⊢;rwa[Array.getElem?_setIfInBounds_ne (λh=>e h.symm)] at h1
theorem JU(hs:Region.noSelect l.toArray=true)(hpi:nP K Q)(hno:oA K l=true):∀(m:Nat)(t:OT)(listed:Array Bool)(a:Act)(w:World),t.even true m=true→t.ok l.toArray true listed=true→S w→Xy P l (Q.up n) S true t a w→wpAnyH P .any l.toArray (Q.up n) S m listed a w
 |m,.fin,listed,a,w,hev,ho,hS,h=>by
   simp[OT.even] at hev;subst hev;exact wpAnyH_done (by simpa[OT.ok] using ho) (h rfl) 0
 |0,.rd _ _,_,_,_,hev,_,_,_=>by simp[OT.even] at hev
 |0,.br _ _ _,_,_,_,hev,_,_,_=>by simp[OT.even] at hev
 |m+1,.rd i k,listed,a,w,hev,ho,hS,h=>by
   simp only[OT.ok,Bool.and_eq_true,Bool.true_and] at ho;obtain⟨o,v,hi,hy,h'⟩:=h
   exact wpAnyH_take (by simpa using hi) hs ho.1.1 ho.1.2 (λc a w hq=>by
     cases hd:o.dst with
     |none=>rw[hd] at hq;exact hq
     |some d=>rw[hd] at hq;exact dI hpi (Vb hno hi hd) hq) hy hS (JU hs hpi hno m k _ _ w hev ho.2 hS h')
 |m+1,.br i k o,listed,a,w,hev,ho,hS,h=>by
   have hok':(OT.br i k o).ok l.toArray false listed=true:=by
     simp only[OT.ok,Bool.and_eq_true] at ho ⊢;exact⟨⟨rfl,ho.1.2⟩,ho.2⟩
   have hev':(OT.br i k o).even false (m+1)=true:=hev
   have hrd:Region.ready .any l.toArray listed=(OT.br i k o).alts:=by
     simp only[OT.ok,Bool.and_eq_true,Bool.not_true,Bool.false_or,beq_iff_eq] at ho;exact ho.1.1
   have hw':Xy P l (Q.up n) S false (.br i k o) a w:=h;refine wpAnyH_all hrd (by simp[OT.alts]) λj hj=>?_;obtain⟨k',h1,⟨m',hm,h2⟩,h3⟩:=OT.alts_mem (.br i k o) l.toArray listed (m+1) j hok' hev' hj;obtain rfl:m=m':=oM;obtain⟨op,hop,hwl⟩:=h3 P l (Q.up n) S a w hw';exact wpOp_mono (λa' w' hk=>⟨hk.1,JU hs hpi hno m k' _ a' w' h2 h1 hk.1 hk.2⟩) (HZ (by simpa using hop) (λ_ _ h=>h) hwl)
variable{σ:Bb}{ds:List Deferred}{X:Cx}{R:List RB}{B:List FB}{Fs:List (World→Fq→Prop)}{fs:List Fr}{H Hk:List HB}
theorem Ql(hpi:nP K Q):∀fs:List Fr,nP K (L8 P n Q fs)
 | []=>hpi
 |.sq _::fs=>Ql hpi fs
 |.bk _::fs=>Ql hpi fs
theorem Wu(K:List Nat)(J:World→Prop)(hJ:∀w f,X.I w f→C2 X.M X.w0 X.f0 w f→J w)(ix:List Nat)(hm:P.follows .mixedOrders=true)(t:OT)(hk:L3 H ix=some Hk)(hok:t.ok l.toArray true (Array.replicate l.length false)=true)(hev:t.even true l.length=true)(hsel:Region.noSelect l.toArray=true)(hno:oA K l=true)(hpi:nP K Q)
   (h:CL P n (L8 P n Q fs) ds X R B Fs l Hk B J true t σ H):A3 P n Q ds X R B Fs (.code (.region id l.toArray true)) fs σ H:=λw f hM a ha=>by
 refine wp_region_held (S:=Kp Hk B J) hm ?_;have hM':AO X w.drew f H R B Fs:=hM.call0 (C2.of_ext AS.drew hM.val);have:=JU (P:=P) (n:=n) (Q:=L8 P n Q fs) hsel (Ql hpi fs) hno l.length t (Array.replicate l.length false) a w.drew hev hok (hM'.kp (Jl hk) hJ) (h w.drew f hM' a ha);simpa using this
end
variable {args:Array Value}{f:Fq}{fid:FuncId}{cv:List Value}{M:Nat→Prop}{x:Operand}{w:World}
theorem fQ{b1 b2 b3:Nat}{l1 l2 l3:List Value}{T1 T2 T3:TypeId}(hv:Vl w f)(h1:AI w b1 l1 T1)(h2:AI w b2 l2 T2)(h3:AI w b3 l3 T3)(hf:f b1=0∧f b2=0∧f b3=0)(hn:b1≠b2∧b1≠b3∧b2≠b3) :
   AO ⟨λb=>b=b1∨b=b2∨b=b3,λ_=>False,λ_ _=>True,w,f⟩ w f [⟨b1,l1,T1,false⟩,⟨b2,l2,T2,false⟩,⟨b3,l3,T3,false⟩] [] [] [] where
 stp:=LH.refl _ _
 old _ _:=rfl
 val:=hv
 ent:=Hp.refl _ _
 res:=trivial
 stab _ _ _ _ _ _ _:=trivial
 mi _ h:=h.elim
 blk e h:=by
   rcases List.mem_cons.1 h with rfl|h
   · exact h1
   rcases List.mem_cons.1 h with rfl|h
   · exact h2
   rcases List.mem_cons.1 h with rfl|h
   · exact h3
   cases h
 row _ h:=by cases h
 nd:=by simp[C6,hn.1,hn.2.1,hn.2.2]
 own b h:=by
   simp[C6] at h;rcases h with rfl|rfl|rfl
   · exact⟨hf.1,.inr (.inl rfl),λh=>h⟩
   · exact⟨hf.2.1,.inr (.inr (.inl rfl)),λh=>h⟩
   · exact⟨hf.2.2,.inr (.inr (.inr rfl)),λh=>h⟩
 hnw e h hh:=by
   rcases List.mem_cons.1 h with rfl|h
   · cases hh
   rcases List.mem_cons.1 h with rfl|h
   · cases hh
   rcases List.mem_cons.1 h with rfl|h
   · cases hh
   cases h
 rnw _ h:=by cases h
 fro _ h:=by cases h
 fac _ h:=by cases h
 mono _ h:=by cases h
def UC(P:Program)(fn:Func)(K:List Nat)(R:Ending→World→Prop):AU :=
 {q:=(Va P fn R).q,
   p:=λc σ ds w=>∀tmps:Array Value,(∀t,t∈K→∀v,σ t=some v→tmps.getD t undef=v)→Leaves P fn tmps R ds (.panicking c) w}
theorem Ey{P:Program}{fn:Func}{K:List Nat}{R:Ending→World→Prop}:nP K (UC P fn K R):=λ_ _ _ _ _ hk h tmps ht=>h tmps λt hm v hv=>ht t hm v ((hk t hm).trans hv)
theorem kO{P:Program}{n:Nat}{X:Cx}{H:List HB}{R:List RB}{B:List FB}{Fs:List (World→Fq→Prop)}{fn:Func}{c:Code}{l:List Value}{R0:Ending→World→Prop}{K:List Nat}(hf:P.funcs[fid]?=some fn)(hb:fn.body=some c)(hn:fn.ntmps=n)(hl:Nat.ble l.length n=true)(hM:AO X w f H R B Fs)
   (h:A3 P n (UC P fn K R0) [] X R B Fs (.code c) [] (H5 l 0) H):Calls P fid l.toArray w R0:=by
 refine calls_of_wp_defers hf hb ?_;rw[hn];refine wp_mono (h w f hM _ (Jg hl)) λe a w' he=>?_
 cases e with
 |normal=>obtain⟨σ,ds,hs,hq⟩:=he;show Leaves _ _ _ _ a.defers _ _;rw[hs.defs];exact hq _ hs.val
 |ret=>obtain⟨σ,ds,hs,hq⟩:=he;show Leaves _ _ _ _ a.defers _ _;rw[hs.defs];exact hq _ hs.val
 |panic c=>obtain⟨σ,ds,hs,hq⟩:=he;show Leaves _ _ _ _ a.defers _ _;rw[hs.defs];exact hq _ λt _ v hv=>hs.val t v hv
 |outgrown=>exact he.elim
 |exit i=>obtain⟨σ,ds,hs,hq⟩:=he;exact hq.elim
 |goto i=>obtain⟨σ,ds,hs,hq⟩:=he;exact hq.elim
section
variable{P:Program}{n:Nat}{Q:AU}{ds:List Deferred}{X:Cx}{R:List RB}{B:List FB}{Fs:List (World→Fq→Prop)}{fs:List Fr}{σ:Bb}{H:List HB}
variable{all r:List Oper}{ty T:TypeId}{pos:String}{af:Array Edge}{g:Option (Nat×Bool)}{d:Nat}
theorem vH{f:FuncId}{ts:Array TypeId}(hg:gd all σ g=some true)(hx:ev σ x=some (.func (.func f) #[] cv.toArray))
   (h:A3 P n Q ({target:=.fn (.func f) cv.toArray,args:=#[]}::ds) X R B Fs (.ops all r) fs σ H):A3 P n Q ds X R B Fs (.ops all (⟨none,.defer {callee:=.value x,args:=#[],argTypes:=ts},ty,pos,af,g⟩::r)) fs σ H:=λw f hM =>
 B1 hg (Oo hx (h w f hM))
theorem WL{op:Op}{α:Type}{val:α→Value}{q:α→Prop}{I':α→World→Fq→Prop}{F':α→List (World→Fq→Prop)}{pe:SP.Er→Prop}
   (hg:gd all σ g=some true) (hd:Nat.blt d n=true) (he:∀w,Enters P σ op ty w fid args) (hs:∀b,M b→X.MI b)
   (hc:∀w f,AO X w f H R B Fs→BB P fid args w (ED val q X.MI I' F' w f) (SP.PanE T M pe w f)) (hst:∀x,EV X.MI (I' x)) (hm:∀x,Ax (F' x))
   (hp:∀er w' f',pe er→C2 X.M X.w0 X.f0 w' f'→(∀e,e∈H→AI w' e.b e.l e.T∧f' e.b=0∧(e.nw=true→X.w0.heap.size≤e.b))→Q.p (SP.trI T er) σ ds w')
   (h:∀x,q x→A3 P n Q ds {X with I:=I' x} R B (F' x++Fs) (.ops all r) fs (AA σ d (val x)) H):A3 P n Q ds X R B Fs (.ops all (⟨some d,op,ty,pos,af,g⟩::r)) fs σ H :=
 NS (XX:=λc w'=>∃er f',c=SP.trI T er∧pe er∧C2 X.M X.w0 X.f0 w' f'∧∀e,e∈H→AI w' e.b e.l e.T∧f' e.b=0∧(e.nw=true→X.w0.heap.size≤e.b)) hg hd he (λw f hM=>(hc w f hM).mono (λ_ _ h=>h) λ_ w' ⟨er,f',h1,h2,h3⟩=>by
   have hM':=hM.callI (I':=λ_ _=>True) (h3.mono hs) tQ (λ_ _ _ _ _ _ _=>trivial);exact⟨er,f',h1,h2,hM'.exm,λe he=>⟨hM'.blk e he,(hM'.own e.b (List.mem_append.2 (.inl (List.mem_map.2 ⟨e,he,rfl⟩)))).1,hM'.hnw e he⟩⟩) hst hm (λ_ _ _ _ _ ⟨er,f',h1,h2,h3,h4⟩=>h1▸hp er _ f' h2 h3 h4) h
end
open Go.SP (Qq)
section
variable{P:Program}{n:Nat}{Q:AU}{ds:List Deferred}{X:Cx}{R:List RB}{B:List FB}{Fs:List (World→Fq→Prop)}{fs:List Fr}{σ:Bb}{H:List HB}
variable{all r:List Oper}{ty T:TypeId}{pos:String}{af:Array Edge}{g:Option (Nat×Bool)}{d:Nat}{op:Op}{fid:FuncId}{args:Array Value}{α:Type}
variable {pe:Int×Int→Prop}{xs:List Value}{e:TypeId}
theorem rK{val:α→Value}{q:α→Prop}{F':α→List (World→Fq→Prop)}
   (hg:gd all σ g=some true) (hd:Nat.blt d n=true) (he:∀w,Enters P σ op ty w fid args)
   (hc:∀w f,AO X w f H R B Fs→BB P fid args w (Bw val q F' w f) (Rr T pe w f)) (hm:∀x,Ax (F' x))
   (hp:∀e w' f',pe e→C2 X.M X.w0 X.f0 w' f'→(∀e,e∈H→AI w' e.b e.l e.T∧f' e.b=0∧(e.nw=true→X.w0.heap.size≤e.b))→Q.p (Qq T e) σ ds w')
   (h:∀x,q x→A3 P n Q ds X R B (F' x++Fs) (.ops all r) fs (AA σ d (val x)) H):A3 P n Q ds X R B Fs (.ops all (⟨some d,op,ty,pos,af,g⟩::r)) fs σ H:=λw f hM=>by
 refine B1 hg (BX hd (he w) (hc w f hM) ?_ ?_)
 · rintro v w' ⟨x,f',rfl,hq,hE,hF⟩
   exact h x hq w' f' ((hM.call0 hE).more (B':=[]) (λ_ h=>by cases h) hF.mem (hm x).mem)
 · rintro c w' ⟨e,f',rfl,hq,hE⟩
   rw[L7];have hM':=hM.call0 hE;exact hp e w' f' hq hM'.exm λe he=>⟨hM'.blk e he,(hM'.own e.b (List.mem_append.2 (.inl (List.mem_map.2 ⟨e,he,rfl⟩)))).1,hM'.hnw e he⟩
theorem vV{size k:Nat}{val:Option Addr→Nat→Value}(hg:gd all σ g=some true)(hd:Nat.blt d n=true)(he:∀w,Enters P σ op ty w fid args)
   (hc:∀w f,AO X w f H R B Fs→Bo P fid args w λv w'=>∃a c,v=val a c∧(BP w' e size a c k xs∧∀b,rb a=some b→w.heap.size≤b)∧AS w w')
   (h:∀a c,A3 P n Q ds X (⟨e,size,a,c,k,xs⟩::R) B Fs (.ops all r) fs (AA σ d (val a c)) H):A3 P n Q ds X R B Fs (.ops all (⟨some d,op,ty,pos,af,g⟩::r)) fs σ H:=λw f hM=>by
 refine B1 hg (BX hd (he w) (Bo.retP (X:=λ_ _=>False) (hc w f hM)) ?_ (λ_ _ h=>False.elim h));rintro v w' ⟨a,c,rfl,⟨hr,hb⟩,hE⟩;exact h a c w' f (hM.addRow (C2.of_ext hE hM.val) hr λb hb'=>⟨hb b hb',hM.val b (hb b hb')⟩)
end
end Go.SW
namespace Go.SP
open Go.SW Go.RowKit
def fF(w w':World)(f:Fq):Fq:=λb=>if b<w.heap.size then f b else match w'.heap[b]? with|some (.cells l _)=>l.size|_=>0
variable {f:Fq}{l:List Value}{b off:Nat}{a:Option Addr}{w w':World}
theorem dB(hE:AS w w'):C2 (λ_=>False) w f w' (fF w w' f) where
 stp:=LH.of_ext hE
 old b hb:=by unfold fF;rw[if_pos hb]
 val b hb:=by
   unfold fF;rw[if_neg (by have:=hE.size;omega),Array.getElem?_eq_none hb]
theorem jY{L r:List Value}{T:TypeId}(hb:AI w' b L T)(hn:w.heap.size≤b)(hd:L.drop off=l++r):Cs w' (fF w w' f) b off l:=λj v hj=>by
 have h1:L[off+j]?=some v:=by
   rw[← List.getElem?_drop,hd];obtain⟨h,_⟩:=List.getElem?_eq_some_iff.1 hj;rw[List.getElem?_append_left h];exact hj
 obtain⟨h2,_⟩:=List.getElem?_eq_some_iff.1 h1;have hb':w'.heap[b]?=some (.cells L.toArray T):=hb;refine⟨?_,?_⟩
 · unfold fF
   rw[if_neg (by omega),hb'];simpa using h2
 · rw[hb.cell,h1]
theorem GS.frz:∀(k:Fo)(b off:Nat)(L l:List Value)(T:TypeId),AI w' b L T→w.heap.size≤b→L.drop off=l→GS (λb=>w.heap.size≤b) w' k l→WU w' (fF w w' f) k b off
 |.nil,_,_,_,_,_,_,_,_,_=>trivial
 |.cons t k r,b,off,L,l,T,hb,hn,hd,⟨a,n,c,l',h1,⟨h2,h3,h4⟩,h5⟩=>by
   subst h1;refine⟨⟨a,c,jY (r:=l') hb hn (by rw[hd,h2];rfl),oM,?_⟩,GS.frz r b (off+6) L l' T hb hn (by rw[← List.drop_drop,hd];rfl) h5⟩;rcases h4 with h4|⟨b',off',l2,T2,hu,ha,hb2,hc⟩
   · left
     cases k with
     |nil=>rfl
     |cons _ _ _=>rw[h4] at h2;cases h2
   · exact .inr ⟨b',off',ha,GS.frz k b' off' l2 _ T2 hb2 hu rfl hc⟩
theorem Eb.frz{c:Nat}{k:Fo}(h:Eb (λb=>w.heap.size≤b) w' a k.len c k):DH w' (fF w w' f) k a c:=by
 obtain⟨h1,h2,h3⟩:=h;refine⟨h2,?_⟩;rcases h3 with h3|⟨b,off,l,T,hu,ha,hb,hc⟩
 · left
   cases k with
   |nil=>rfl
   |cons _ _ _=>cases h3
 · exact .inr ⟨b,off,ha,GS.frz k b off l _ T hb hu rfl hc⟩
def Rt(p:Nd×Int×Int×Int)(w:World)(f:Fq)(v:Value)(w':World):Prop :=
 ∃f' a c,C2 (λ_=>False) w f w' f'∧v=.tuple #[.slice a p.1.len c,.agg #[.int .i64 p.2.1,.int .i64 p.2.2.1],.int .i64 p.2.2.2]∧AD w' f' p.1 a c
end Go.SP
namespace Go.Proofs.YtelmolopaolbcaaGreatDoor
open Go.SW Go.SP Go.RowKit Go.Proofs.Tryz
theorem TA(w:World)(ta:Option Addr)(tn tc:Nat)(toks:List AK)(hT:BP w 108 5 ta tc toks.length (EJ toks))(htn:tn=toks.length)(hlen:toks.length≤100000) :
  BB prog 19 #[.slice ta tn tc] w (λv w'=>∃fo a c,Bn toks [] .nil=.ok fo∧v=.slice a fo.len c∧Eb (λb=>w.heap.size≤b) w' a fo.len c fo∧AS w w') (λc w'=>∃e,Bn toks [] .nil=.error e∧c=Qq 61 e∧AS w w'):=by
 subst htn;have hX:=AS.refl w;refine HO func19 rfl rfl rfl<|AQ [] 7 [] (Ar _) (λ_=>BZ rfl rfl GC qL rfl rfl rfl rfl rfl λb1 w1 hb1 hE1 hs1 hz1=>?_);replace hX:=hX.trans hE1;refine AH [.sq _] 17 [] (Ar _) (λ_=>?_);refine DD (λk σ ds w'=>∃(i:Nat)(pre rest:List AK)(st:List (AK×Fo))(cur:Fo)(u:Nat→Nat)(oa:Option Addr)(oc sb sc:Nat)(a:Option Addr)(c:Nat)(vs:List Value),k=rest.length∧ds=[]∧σ=(E5 3 (.slice (some ⟨sb,0,none⟩) (st.length+1) sc) 4 (.slice oa st.length oc) 10 (.slice ta toks.length tc) 11 (iV (toks.length:Int)) 12 (iV (i:Int)))∧toks=pre++rest∧pre.length=i∧Bn toks [] .nil=Bn rest st cur∧st.length≤200∧cur.len≤i∧(∀z∈st,z.2.len≤i)∧SV 110 108 63 u w w' st st oa oc (some ⟨sb,0,none⟩) sc (.slice a cur.len c) a c cur vs none 0 0 .nil∧AS w w') toks.length (E5 3 (.slice (some ⟨b1,0,none⟩) 1 1) 4 (.slice none 0 0) 10 (.slice ta toks.length tc) 11 (iV (toks.length:Int)) 12 (iV ((0:Nat):Int))) lE ⟨0,[],toks,[],.nil,λ_=>2,none,0,b1,1,none,0,[],rfl,rfl,rfl,rfl,rfl,rfl,by simp,by simp[Fo.len],(λz hz=>by cases hz),SV.start hb1 oM,hX⟩ ?_;rintro _ _ _ wl ⟨i,pre,rest,st,cur,u,oa,oc,sb,sc,a,c,vs,rfl,rfl,rfl,htk,hpi,hm,h200,hcl,hsl,hS,hX⟩;have szl:=hX.size;have hil:i+rest.length=toks.length:=by rw[htk,List.length_append,hpi]
 have hslt:sb<wl.heap.size:=hS.slt sb rfl;have hsge:w.heap.size≤sb:=(hS.sla sb rfl).1;have htlt:=hS.tlt;have holt:=hS.olt;have hson:=hS.o.n_le;have hssn:=hS.s.n_le;have hA1:=AS.refl wl;refine AQ [] 6 [] (Ar _) (λ_=>sP 13 rfl (λh1=>?_) (λh1=>?_));refine AQ [.sq _] 7 [] (Ar _) (λ_=>?_);have hi2:i<toks.length:=by simpa using h1
 rcases rest with _|⟨tk,rest⟩
 · simp at hil;omega
 simp only[List.length_cons] at hil;obtain⟨bt,lt,lt2,hta,hbt,hdt⟩:=iQ (htk▸hT) hpi
 cases hta
 have hbtl:=hbt.lt;refine Ab rfl (JJ (i:=i) rfl rfl GB hi2)<|Ab rfl (La 0 rfl DF (hbt.ext hX) hdt oM rfl)<|C1 rfl Dn λb2 w2 hb2 hE2 hs2 hz2=>?_;replace hX:=hX.trans hE2;replace hA1:=hA1.trans hE2;refine A1 rfl rfl rfl DF rfl hb2 rfl rfl λw3 hb3 hC1=>?_;replace hX:=hX.chg hC1 oM;replace hA1:=hA1.chg hC1 oM;have sz1:=hC1.size;refine AH [.sq _,.bk _,.sq _] 23 [0,0] (kB hb3 (Ar _)) (aI ⟨oM,oM⟩<|y2<|λ_=>sP 32 rfl (λh2=>?_) (λh2=>?_));refine AQ [.bk _,.bk _,.sq _] 9 [] (Ar _) (λ_=>sP 36 rfl (λh3=>?_) (λh3=>?_));exact AQ [.sq _,.bk _,.bk _,.sq _] 5 [0,1] (kB hb3 (Ar _)) (y2<|λ_=>Ab rfl (BL rfl aF)<|Cf (BA rfl) (aI rfl<|⟨(tk.ln,tk.co),hm.trans (R9 h2 (by have:=h3;simp at this;omega)),rfl,hX⟩));refine AQ [.sq _,.bk _,.bk _,.sq _] 7 [0,0] (kB hb3 (Ar _)) (y2<|λ_=>BZ rfl rfl GB Dn rfl rfl rfl rfl rfl λb3 w4 hb4 hE3 hs3 hz3=>?_);replace hb3:=hb3.ext hE3;replace hX:=hX.trans hE3;replace hA1:=hA1.trans hE3;have hS0:=(hS.ext hA1);refine AY rfl Is rfl rfl rfl rfl hS0.o hb4 rfl rfl oM oM λoa2 oc2 w5 hr1 hG1=>?_;obtain⟨u2,hS1⟩:=hS0.pushTok tk cur hr1 hG1 oM;replace hX:=hX.grow hG1 (λb hb=>(hS0.ol b hb).1);have sz2:=hG1.size;have hA2:=AS.refl w5;refine AH [.sq _,.bk _,.bk _,.sq _] 5 [] (Ar _) (λ_=>BZ rfl rfl GC qL rfl rfl rfl rfl rfl λb4 w6 hb5 hE4 hs4 hz4=>?_);replace hX:=hX.trans hE4;replace hA2:=hA2.trans hE4;have hS0:=(hS1.ext hA2);refine AY rfl rQ rfl rfl rfl rfl hS0.s hb5 rfl rfl oM oM λsa2 sc2 w7 hr2 hG2=>?_;obtain⟨u3,hS2⟩:=hS0.pushLev rfl tk hr2 hG2 oM;replace hX:=hX.grow hG2 (λb hb=>(hS0.sla b hb).1);have sz3:=hG2.size;have hA3:=AS.refl w7;refine AH [.bk _,.bk _,.sq _] 9 [] (Ar _) (aI ⟨oM,oM⟩<|λ_=>?_);obtain⟨sb2,_,hes2,-⟩:=(hS2.ext hA3).sblk
 cases hes2
 have hne2:st.length≠200:=by have:=h3;simp at this;omega
 refine GV rest.length (E5 3 (.slice (some ⟨sb2,0,none⟩) (st.length+1+1) sc2) 4 (.slice oa2 (st.length+1) oc2) 10 (.slice (some ⟨bt,0,none⟩) toks.length tc) 11 (iV (toks.length:Int)) 12 (iV ((i+1:Nat):Int))) (by simp) lE ⟨i+1,pre++[tk],rest,(tk,cur)::st,.nil,_,oa2,oc2,sb2,sc2,none,0,_,rfl,rfl,rfl,by rw[htk];simp,by simp[hpi],hm.trans (RX h2 hne2),by simp only[List.length_cons];omega,by simp[Fo.len],Wk tk hsl hcl,(hS2.ext hA3),hX⟩;refine AQ [.bk _,.bk _,.sq _] 7 [] (Ar _) (λ_=>sP 48 rfl (λh4=>?_) (λh4=>?_));refine AQ [.bk _,.bk _,.sq _] 8 [] (Ar _) (λ_=>sP 51 rfl (λh5=>?_) (λh5=>?_));refine AQ [.sq _,.bk _,.bk _,.sq _] 5 [0,1] (kB hb3 (Ar _)) (y2<|λ_=>Ab rfl (BL rfl aF)<|Cf (BA rfl) (aI rfl ?_));rcases st with _|⟨o,s⟩
 · exact⟨(tk.ln,tk.co),hm.trans (Tq h2 h4),rfl,hX⟩
 · have h2:=h5;simp at h2 <;> omega
 refine AQ [.sq _,.bk _,.bk _,.sq _] 4 [] (Ar _) (λ_=>?_);rcases st with _|⟨⟨o,q⟩,s⟩
 · simp at h5
 rcases vs with _|⟨y,vs⟩
 · exact hS.lv.elim
 obtain⟨_,ls,hes,hsb,hcell,hsl2,hsw,hsu⟩:=(hS.ext hA1).sblk
 cases hes
 obtain⟨ob,lo,lo2,hoa,hob,hod⟩:=(hS.ext hA1).oblk
 cases hoa
 have hobl:ob<wl.heap.size:=holt ob rfl;have hr3:=hsb;have hr4:=(hbt.ext hX);have hr5:=hb3;have hr6:=hob;refine D8 mixed (A5 w3 [sb,bt,b2,ob]) [(true,0),(true,1),(true,2),(true,3),(true,4),(true,5),(true,6),(true,7),(true,8),(true,9),(false,10),(false,11)] kR kR rfl rfl λw8 hE5 hz5=>?_;have hKp:A5 w3 [sb,bt,b2,ob] w8:=A5.cons hr3 hE5 (A5.cons hr4 hE5 (A5.cons hr5 hE5 (A5.cons hr6 hE5 (A5.nil _ _))));refine⟨hKp,?_⟩;replace hb3:=hb3.ext hE5;replace hob:=hob.ext hE5;replace hsb:=hsb.ext hE5;replace hX:=hX.trans hE5;replace hA1:=hA1.trans hE5;refine A0 rfl (λ_ hS=>Ay rfl)<|A0 rfl (λ_ hS=>Ay rfl)<|A0 rfl (λ_ hS=>GL rfl rfl ⟨oM,oM⟩)<|A0 rfl (λ_ hS=>Eh s.length rfl rfl (by simp <;> omega) GB (by simp))<|A0 rfl (λ_ hS=>La 0 rfl DF (hr6.keep hS (.tail _ (.tail _ (.tail _ (.head _))))) hod oM rfl)<|A0 rfl (λ_ hS=>Ay rfl)<|A0 rfl (λ_ hS=>Ay rfl)<|A0 rfl (λ_ hS=>Eh (s.length+1) rfl rfl (by simp) GC (by simp))<|A0 rfl (λ_ hS=>Ai rfl J6 (hr3.keep hS (.head _)) (by simpa using hcell))<|A0 rfl (λ_ hS=>Du rfl fB Kj rfl) ?_;refine Ei<|C1 rfl Kj λb5 w9 hb6 hE6 hs5 hz6=>?_;replace hb3:=hb3.ext hE6;replace hob:=hob.ext hE6;replace hsb:=hsb.ext hE6;replace hX:=hX.trans hE6;replace hA1:=hA1.trans hE6;replace hKp:=hKp.ext hE6;refine Ae (GG hKp<|Ei<|A1 rfl rfl rfl KF rfl hb6 rfl rfl λw10 hb7 hC2=>?_);replace hb3:=hb3.chg hC2 oM;replace hob:=hob.chg hC2 oM;replace hsb:=hsb.chg hC2 oM;replace hX:=hX.chg hC2 oM;replace hA1:=hA1.chg hC2 oM;replace hKp:=hKp.chg hC2 nM;have sz4:=hC2.size;refine Ae (GG hKp<|DJ<|JA [.sq _,.bk _,.bk _,.sq _] 2 [] (Ar _) (λ_=>?_));have hr7:=(hbt.ext hX);have hr8:=hb3;have hr9:=hb7;refine D8 mixed (A5 w10 [bt,b2,b5]) [(true,0),(true,1),(true,2),(true,3),(true,4),(true,5),(true,6),(true,7),(true,8)] kR kR rfl rfl λw11 hE7 hz7=>?_;have hKp:A5 w10 [bt,b2,b5] w11:=A5.cons hr7 hE7 (A5.cons hr8 hE7 (A5.cons hr9 hE7 (A5.nil _ _)));refine⟨hKp,?_⟩;replace hb3:=hb3.ext hE7;replace hb7:=hb7.ext hE7;replace hX:=hX.trans hE7;replace hA1:=hA1.trans hE7;refine A0 rfl (λ_ hS=>Ay rfl)<|A0 rfl (λ_ hS=>Ay rfl)<|A0 rfl (λ_ hS=>GL rfl rfl ⟨oM,oM⟩)<|A0 rfl (λ_ hS=>Vj s.length rfl rfl (by simp <;> omega) GB (by simp only[List.length_cons] at hson;omega))<|A0 rfl (λ_ hS=>Ay rfl)<|A0 rfl (λ_ hS=>Ay rfl)<|A0 rfl (λ_ hS=>Vj (s.length+1) rfl rfl (by simp) GC (by simp only[List.length_cons] at hssn;omega))<|A0 rfl (λ_ hS=>CK rfl)<|A0 rfl (λ_ hS=>CK rfl)<|DJ ?_;refine JA [.sq _,.bk _,.bk _,.sq _] 2 [] (Ar _) (λ_=>?_);obtain⟨u2,a2,c2,hy,hP⟩:=(hS.ext hA1).pop
 cases hy
 obtain⟨a9,c9,hy9,xs9,hrow9,-⟩:=hS.lv.1
 cases hy9
 have htlt9:∀b,rb a2=some b→b<wl.heap.size:=λb hb=>hrow9.lt hb;have hA4:=AS.refl w11;have hr10:=(hbt.ext hX);have hr11:=hb3;have hr12:=hb7;refine DO mixed (A5 w11 [bt,b2,b5]) (.br 0 (.br 1 (.br 2 (.br 3 .fin .fin) .fin) (.br 2 (.br 1 (.br 3 .fin .fin) .fin) .fin)) .fin) kR kR kR λw12 hE8 hz8=>?_;have hKp:A5 w11 [bt,b2,b5] w12:=A5.cons hr10 hE8 (A5.cons hr11 hE8 (A5.cons hr12 hE8 (A5.nil _ _)));refine⟨hKp,?_⟩;replace hb3:=hb3.ext hE8;replace hb7:=hb7.ext hE8;replace hX:=hX.trans hE8;replace hA1:=hA1.trans hE8;replace hA4:=hA4.trans hE8;refine An rfl ?_ Af;refine C1 rfl wL λb6 w13 hb8 hE9 hs6 hz9=>?_;replace hb3:=hb3.ext hE9;replace hb7:=hb7.ext hE9;replace hX:=hX.trans hE9;replace hA1:=hA1.trans hE9;replace hA4:=hA4.trans hE9;replace hKp:=hKp.ext hE9;refine Ae (Ao hKp<|An rfl ?_ ?_);refine A1 rfl rfl rfl mW rfl hb8 rfl rfl λw14 hb9 hC3=>?_;replace hb3:=hb3.chg hC3 oM;replace hb7:=hb7.chg hC3 oM;replace hX:=hX.chg hC3 oM;replace hA1:=hA1.chg hC3 oM;replace hA4:=hA4.chg hC3 oM;replace hKp:=hKp.chg hC3 nM;have sz5:=hC3.size;refine Ae (Ao hKp<|An rfl ?_ Af);refine A1 rfl rfl rfl mW rfl hb9 rfl rfl λw15 hb10 hC4=>?_;replace hb3:=hb3.chg hC4 oM;replace hb7:=hb7.chg hC4 oM;replace hX:=hX.chg hC4 oM;replace hA1:=hA1.chg hC4 oM;replace hA4:=hA4.chg hC4 oM;replace hKp:=hKp.chg hC4 nM;have sz6:=hC4.size;refine Ae (Ao hKp<|An rfl ?_ Af);refine Ab rfl (Ai rfl mW hb10 rfl)<|Ae (Ao hKp<|Bz<|JA [.sq _,.bk _,.bk _,.sq _] 2 [] (Ar _) (λ_=>?_));have hr13:=(hbt.ext hX);have hr14:=hb3;have hr15:=hb7;have hr16:=hb10;refine DO mixed (A5 w15 [bt,b2,b5,b6]) (rd [0,1,2,3,4,5,6,8] (.br 7 (.br 9 (.br 10 (.rd 11 (.br 12 .fin .fin)) .fin) .fin) (.br 9 (.br 7 (.br 10 (.rd 11 (.br 12 .fin .fin)) .fin) .fin) .fin))) kR kR kR λw16 hE10 hz10=>?_;have hKp:A5 w15 [bt,b2,b5,b6] w16:=A5.cons hr13 hE10 (A5.cons hr14 hE10 (A5.cons hr15 hE10 (A5.cons hr16 hE10 (A5.nil _ _))));refine⟨hKp,?_⟩;replace hb3:=hb3.ext hE10;replace hb7:=hb7.ext hE10;replace hb10:=hb10.ext hE10;replace hX:=hX.trans hE10;replace hA1:=hA1.trans hE10;replace hA4:=hA4.trans hE10;refine Av rfl rfl (λ_ hS=>Ay rfl)<|Av rfl rfl (λ_ hS=>Ay rfl)<|Av rfl rfl (λ_ hS=>GL rfl rfl ⟨oM,oM⟩)<|Av rfl rfl (λ_ hS=>Ay rfl)<|Av rfl rfl (λ_ hS=>Ay rfl)<|Av rfl rfl (λ_ hS=>GL rfl rfl ⟨oM,oM⟩)<|Av rfl rfl (λ_ hS=>Eh s.length rfl rfl (by simp <;> omega) GC oM)<|Av rfl rfl (λ_ hS=>CT rfl KF (hr15.keep hS (.tail _ (.tail _ (.head _)))) rfl)<|An rfl ?_ ?_;obtain⟨_,ls,hes,hsb,hcell,hsl2,hsw,hsu⟩:=(hP.ext hA4).sblk
 cases hes
 refine Ab rfl (Ai rfl J6 hsb (by simpa using hcell))<|Ae (Ao hKp<|An rfl ?_ Af);refine BZ rfl rfl Kk Kj rfl rfl rfl rfl rfl λb7 w17 hb11 hE11 hs7 hz11=>?_;replace hb3:=hb3.ext hE11;replace hb7:=hb7.ext hE11;replace hb10:=hb10.ext hE11;replace hX:=hX.trans hE11;replace hA1:=hA1.trans hE11;replace hA4:=hA4.trans hE11;replace hKp:=hKp.ext hE11;refine Ae (Ao hKp<|An rfl ?_ Af);have hS0:=(hP.ext hA4);obtain⟨xs,hrow,hfc,hla⟩:=hS0.top;have hql:=hsl (o,q) (.head _);simp only at hql;refine AY rfl Wy rfl rfl rfl rfl hrow hb11 rfl rfl oM oM λa3 c3 w18 hr17 hG3=>?_;obtain⟨u3,hS3⟩:=hS0.app hrow hfc hla o hS0.kid hr17 hG3 oM;obtain⟨lb,_,he3,-⟩:=hS3.tblk
 cases he3
 have hlo:lb<wl.heap.size∨lb=w17.heap.size:=by
  rcases hG3.own with h|h
  · exact .inl (htlt9 lb h.symm)
  · exact .inr (Option.some.inj h)
 have hlge:w17.heap.size≤w18.heap.size:=hG3.size;replace hX:=hX.grow hG3 (λb hb=>(hla b hb).1);have sz7:=hG3.size;replace hKp:=hKp.grow hG3 (by simp only[List.mem_cons,List.not_mem_nil,or_false];intro c hc e;have h1:=(hla c e.symm).1;have h2:=htlt9 c e.symm;omega);have hA5:=AS.refl w18;refine Ae (Ao hKp<|Av rfl rfl (λ_ hS=>Eh s.length rfl rfl (by simp <;> omega) GC oM)<|An rfl ?_ Af);have hS0:=(hS3.ext hA5);obtain⟨_,ls,hes,hsb,hcell,hsl2,hsw,hsu⟩:=hS0.sblk
 cases hes
 refine BV rfl rfl rfl J6 rfl hsb rfl (by simp <;> omega) λw19 hb12 hC5=>?_;have hS4:=hS0.cell' rfl hsb hb12 hC5;replace hX:=hX.chg hC5 hsw;have sz8:=hC5.size;replace hKp:=hKp.chg hC5 nM;have hA6:=AS.refl w19;refine Ae (Ao hKp<|Bz<|JA [.bk _,.bk _,.sq _] 7 [] (Ar _) (aI ⟨oM,oM⟩<|λ_=>GV rest.length (E5 3 (.slice (some ⟨sb,0,none⟩) (s.length+1) sc) 4 (.slice (some ⟨ob,0,none⟩) s.length oc) 10 (.slice (some ⟨bt,0,none⟩) toks.length tc) 11 (iV (toks.length:Int)) 12 (iV ((i+1:Nat):Int))) (by simp) lE ⟨i+1,pre++[tk],rest,s,q.snoc o cur,_,_,oc,sb,sc,_,_,_,rfl,rfl,rfl,by rw[htk];simp,by simp[hpi],hm.trans (Gc h2 h4),by simp only[List.length_cons] at h200;omega,by rw[Fo.len_snoc];have:=hsl (o,q) (.head _);simp only at this;omega,KA hsl,(by rw[Fo.len_snoc];exact (hS4.ext hA6).knil),hX⟩));refine An rfl ?_ ?_;refine BZ rfl rfl Kk Kj rfl rfl rfl rfl rfl λb8 w20 hb13 hE12 hs8 hz12=>?_;replace hb3:=hb3.ext hE12;replace hb7:=hb7.ext hE12;replace hb10:=hb10.ext hE12;replace hX:=hX.trans hE12;replace hA1:=hA1.trans hE12;replace hA4:=hA4.trans hE12;replace hKp:=hKp.ext hE12;refine Ae (Ao hKp<|An rfl ?_ Af);obtain⟨_,ls,hes,hsb,hcell,hsl2,hsw,hsu⟩:=(hP.ext hA4).sblk
 cases hes
 refine Ab rfl (Ai rfl J6 hsb (by simpa using hcell))<|Ae (Ao hKp<|An rfl ?_ Af);have hS0:=(hP.ext hA4);obtain⟨xs,hrow,hfc,hla⟩:=hS0.top;have hql:=hsl (o,q) (.head _);simp only at hql;refine AY rfl Wy rfl rfl rfl rfl hrow hb13 rfl rfl oM oM λa3 c3 w21 hr18 hG4=>?_;obtain⟨u3,hS5⟩:=hS0.app hrow hfc hla o hS0.kid hr18 hG4 oM;obtain⟨lb,_,he3,-⟩:=hS5.tblk
 cases he3
 have hlo:lb<wl.heap.size∨lb=w20.heap.size:=by
  rcases hG4.own with h|h
  · exact .inl (htlt9 lb h.symm)
  · exact .inr (Option.some.inj h)
 have hlge:w20.heap.size≤w21.heap.size:=hG4.size;replace hX:=hX.grow hG4 (λb hb=>(hla b hb).1);have sz9:=hG4.size;replace hKp:=hKp.grow hG4 (by simp only[List.mem_cons,List.not_mem_nil,or_false];intro c hc e;have h1:=(hla c e.symm).1;have h2:=htlt9 c e.symm;omega);have hA7:=AS.refl w21;refine Ae (Ao hKp<|Av rfl rfl (λ_ hS=>Eh s.length rfl rfl (by simp <;> omega) GC oM)<|An rfl ?_ Af);have hS0:=(hS5.ext hA7);obtain⟨_,ls,hes,hsb,hcell,hsl2,hsw,hsu⟩:=hS0.sblk
 cases hes
 refine BV rfl rfl rfl J6 rfl hsb rfl (by simp <;> omega) λw22 hb14 hC6=>?_;have hS6:=hS0.cell' rfl hsb hb14 hC6;replace hX:=hX.chg hC6 hsw;have sz10:=hC6.size;replace hKp:=hKp.chg hC6 nM;have hA8:=AS.refl w22;refine Ae (Ao hKp<|Bz<|JA [.bk _,.bk _,.sq _] 7 [] (Ar _) (aI ⟨oM,oM⟩<|λ_=>GV rest.length (E5 3 (.slice (some ⟨sb,0,none⟩) (s.length+1) sc) 4 (.slice (some ⟨ob,0,none⟩) s.length oc) 10 (.slice (some ⟨bt,0,none⟩) toks.length tc) 11 (iV (toks.length:Int)) 12 (iV ((i+1:Nat):Int))) (by simp) lE ⟨i+1,pre++[tk],rest,s,q.snoc o cur,_,_,oc,sb,sc,_,_,_,rfl,rfl,rfl,by rw[htk];simp,by simp[hpi],hm.trans (Gc h2 h4),by simp only[List.length_cons] at h200;omega,by rw[Fo.len_snoc];have:=hsl (o,q) (.head _);simp only at this;omega,KA hsl,(by rw[Fo.len_snoc];exact (hS6.ext hA8).knil),hX⟩));exact Af;refine An rfl ?_ ?_;refine A1 rfl rfl rfl mW rfl hb8 rfl rfl λw23 hb15 hC7=>?_;replace hb3:=hb3.chg hC7 oM;replace hb7:=hb7.chg hC7 oM;replace hX:=hX.chg hC7 oM;replace hA1:=hA1.chg hC7 oM;replace hA4:=hA4.chg hC7 oM;replace hKp:=hKp.chg hC7 nM;have sz11:=hC7.size;refine Ae (Ao hKp<|An rfl ?_ Af);refine A1 rfl rfl rfl mW rfl hb15 rfl rfl λw24 hb16 hC8=>?_;replace hb3:=hb3.chg hC8 oM;replace hb7:=hb7.chg hC8 oM;replace hX:=hX.chg hC8 oM;replace hA1:=hA1.chg hC8 oM;replace hA4:=hA4.chg hC8 oM;replace hKp:=hKp.chg hC8 nM;have sz12:=hC8.size;refine Ae (Ao hKp<|An rfl ?_ Af);refine Ab rfl (Ai rfl mW hb16 rfl)<|Ae (Ao hKp<|Bz<|JA [.sq _,.bk _,.bk _,.sq _] 3 [] (Ar _) (λ_=>?_));have hr19:=(hbt.ext hX);have hr20:=hb3;have hr21:=hb7;have hr22:=hb16;refine DO mixed (A5 w24 [bt,b2,b5,b6]) (rd [0,1,2,3,4,5,6,8] (.br 7 (.rd 9 (.br 10 (.br 11 (.rd 12 (.br 13 .fin .fin)) .fin) .fin)) (.br 10 (.br 7 (.rd 9 (.br 11 (.rd 12 (.br 13 .fin .fin)) .fin)) .fin) .fin))) kR kR kR λw25 hE13 hz13=>?_;have hKp:A5 w24 [bt,b2,b5,b6] w25:=A5.cons hr19 hE13 (A5.cons hr20 hE13 (A5.cons hr21 hE13 (A5.cons hr22 hE13 (A5.nil _ _))));refine⟨hKp,?_⟩;replace hb3:=hb3.ext hE13;replace hb7:=hb7.ext hE13;replace hb16:=hb16.ext hE13;replace hX:=hX.trans hE13;replace hA1:=hA1.trans hE13;replace hA4:=hA4.trans hE13;refine Av rfl rfl (λ_ hS=>Ay rfl)<|Av rfl rfl (λ_ hS=>Ay rfl)<|Av rfl rfl (λ_ hS=>GL rfl rfl ⟨oM,oM⟩)<|Av rfl rfl (λ_ hS=>Ay rfl)<|Av rfl rfl (λ_ hS=>Ay rfl)<|Av rfl rfl (λ_ hS=>GL rfl rfl ⟨oM,oM⟩)<|Av rfl rfl (λ_ hS=>Eh s.length rfl rfl (by simp <;> omega) GC oM)<|Av rfl rfl (λ_ hS=>CT rfl KF (hr21.keep hS (.tail _ (.tail _ (.head _)))) rfl)<|An rfl ?_ ?_;obtain⟨_,ls,hes,hsb,hcell,hsl2,hsw,hsu⟩:=(hP.ext hA4).sblk
 cases hes
 refine Ab rfl (Ai rfl J6 hsb (by simpa using hcell))<|Ae (Ao hKp<|Av rfl rfl (λ_ hS=>Ld rfl Kk)<|An rfl ?_ Af);refine BZ rfl rfl Kk Kj rfl rfl rfl rfl rfl λb9 w26 hb17 hE14 hs9 hz14=>?_;replace hb3:=hb3.ext hE14;replace hb7:=hb7.ext hE14;replace hb16:=hb16.ext hE14;replace hX:=hX.trans hE14;replace hA1:=hA1.trans hE14;replace hA4:=hA4.trans hE14;replace hKp:=hKp.ext hE14;refine Ae (Ao hKp<|An rfl ?_ Af);have hS0:=(hP.ext hA4);obtain⟨xs,hrow,hfc,hla⟩:=hS0.top;have hql:=hsl (o,q) (.head _);simp only at hql;refine AY rfl Wy rfl rfl rfl rfl hrow hb17 rfl rfl oM oM λa3 c3 w27 hr23 hG5=>?_;obtain⟨u3,hS7⟩:=hS0.app hrow hfc hla ⟨0,0,0,0,[]⟩ (Eb.nil _ _ none 0) hr23 hG5 oM;obtain⟨lb,_,he3,-⟩:=hS7.tblk
 cases he3
 have hlo:lb<wl.heap.size∨lb=w26.heap.size:=by
  rcases hG5.own with h|h
  · exact .inl (htlt9 lb h.symm)
  · exact .inr (Option.some.inj h)
 have hlge:w26.heap.size≤w27.heap.size:=hG5.size;replace hX:=hX.grow hG5 (λb hb=>(hla b hb).1);have sz13:=hG5.size;replace hKp:=hKp.grow hG5 (by simp only[List.mem_cons,List.not_mem_nil,or_false];intro c hc e;have h1:=(hla c e.symm).1;have h2:=htlt9 c e.symm;omega);have hA9:=AS.refl w27;refine Ae (Ao hKp<|Av rfl rfl (λ_ hS=>Eh s.length rfl rfl (by simp <;> omega) GC oM)<|An rfl ?_ Af);have hS0:=(hS7.ext hA9);obtain⟨_,ls,hes,hsb,hcell,hsl2,hsw,hsu⟩:=hS0.sblk
 cases hes
 refine BV rfl rfl rfl J6 rfl hsb rfl (by simp <;> omega) λw28 hb18 hC9=>?_;have hS8:=hS0.cell' rfl hsb hb18 hC9;replace hX:=hX.chg hC9 hsw;have sz14:=hC9.size;replace hKp:=hKp.chg hC9 nM;have hA10:=AS.refl w28;refine Ae (Ao hKp<|Bz<|JA [.sq _,.bk _,.bk _,.sq _] 2 [] (Ar _) (λ_=>Ab rfl (Eh q.len rfl rfl oM Kk oM) ?_));have hS0:=(hS8.ext hA10);obtain⟨_,ll,hel,hlb,hll,hlw,hlu⟩:=hS0.tblk
 cases hel
 refine BV rfl rfl rfl KF rfl hlb rfl (by simp <;> omega) λw29 hb19 hC10=>?_;have hS9:=hS0.last' rfl hlb o hS0.kid hb19 hC10;replace hX:=hX.chg hC10 hlw;have sz15:=hC10.size;have hA11:=AS.refl w29;refine AH [.bk _,.bk _,.sq _] 8 [] (Ar _) (aI ⟨oM,oM⟩<|λ_=>GV rest.length (E5 3 (.slice (some ⟨sb,0,none⟩) (s.length+1) sc) 4 (.slice (some ⟨ob,0,none⟩) s.length oc) 10 (.slice (some ⟨bt,0,none⟩) toks.length tc) 11 (iV (toks.length:Int)) 12 (iV ((i+1:Nat):Int))) (by simp) lE ⟨i+1,pre++[tk],rest,s,q.snoc o cur,_,_,oc,sb,sc,_,_,_,rfl,rfl,rfl,by rw[htk];simp,by simp[hpi],hm.trans (Gc h2 h4),by simp only[List.length_cons] at h200;omega,by rw[Fo.len_snoc];have:=hsl (o,q) (.head _);simp only at this;omega,KA hsl,(by rw[Fo.len_snoc];exact (hS9.ext hA11).knil),hX⟩);refine An rfl ?_ ?_;refine BZ rfl rfl Kk Kj rfl rfl rfl rfl rfl λb10 w30 hb20 hE15 hs10 hz15=>?_;replace hb3:=hb3.ext hE15;replace hb7:=hb7.ext hE15;replace hb16:=hb16.ext hE15;replace hX:=hX.trans hE15;replace hA1:=hA1.trans hE15;replace hA4:=hA4.trans hE15;replace hKp:=hKp.ext hE15;refine Ae (Ao hKp<|An rfl ?_ Af);obtain⟨_,ls,hes,hsb,hcell,hsl2,hsw,hsu⟩:=(hP.ext hA4).sblk
 cases hes
 refine Ab rfl (Ai rfl J6 hsb (by simpa using hcell))<|Ae (Ao hKp<|Av rfl rfl (λ_ hS=>Ld rfl Kk)<|An rfl ?_ Af);have hS0:=(hP.ext hA4);obtain⟨xs,hrow,hfc,hla⟩:=hS0.top;have hql:=hsl (o,q) (.head _);simp only at hql;refine AY rfl Wy rfl rfl rfl rfl hrow hb20 rfl rfl oM oM λa3 c3 w31 hr24 hG6=>?_;obtain⟨u3,hS10⟩:=hS0.app hrow hfc hla ⟨0,0,0,0,[]⟩ (Eb.nil _ _ none 0) hr24 hG6 oM;obtain⟨lb,_,he3,-⟩:=hS10.tblk
 cases he3
 have hlo:lb<wl.heap.size∨lb=w30.heap.size:=by
  rcases hG6.own with h|h
  · exact .inl (htlt9 lb h.symm)
  · exact .inr (Option.some.inj h)
 have hlge:w30.heap.size≤w31.heap.size:=hG6.size;replace hX:=hX.grow hG6 (λb hb=>(hla b hb).1);have sz16:=hG6.size;replace hKp:=hKp.grow hG6 (by simp only[List.mem_cons,List.not_mem_nil,or_false];intro c hc e;have h1:=(hla c e.symm).1;have h2:=htlt9 c e.symm;omega);have hA12:=AS.refl w31;refine Ae (Ao hKp<|Av rfl rfl (λ_ hS=>Eh s.length rfl rfl (by simp <;> omega) GC oM)<|An rfl ?_ Af);have hS0:=(hS10.ext hA12);obtain⟨_,ls,hes,hsb,hcell,hsl2,hsw,hsu⟩:=hS0.sblk
 cases hes
 refine BV rfl rfl rfl J6 rfl hsb rfl (by simp <;> omega) λw32 hb21 hC11=>?_;have hS11:=hS0.cell' rfl hsb hb21 hC11;replace hX:=hX.chg hC11 hsw;have sz17:=hC11.size;replace hKp:=hKp.chg hC11 nM;have hA13:=AS.refl w32;refine Ae (Ao hKp<|Bz<|JA [.sq _,.bk _,.bk _,.sq _] 2 [] (Ar _) (λ_=>Ab rfl (Eh q.len rfl rfl oM Kk oM) ?_));have hS0:=(hS11.ext hA13);obtain⟨_,ll,hel,hlb,hll,hlw,hlu⟩:=hS0.tblk
 cases hel
 refine BV rfl rfl rfl KF rfl hlb rfl (by simp <;> omega) λw33 hb22 hC12=>?_;have hS12:=hS0.last' rfl hlb o hS0.kid hb22 hC12;replace hX:=hX.chg hC12 hlw;have sz18:=hC12.size;have hA14:=AS.refl w33;refine AH [.bk _,.bk _,.sq _] 8 [] (Ar _) (aI ⟨oM,oM⟩<|λ_=>GV rest.length (E5 3 (.slice (some ⟨sb,0,none⟩) (s.length+1) sc) 4 (.slice (some ⟨ob,0,none⟩) s.length oc) 10 (.slice (some ⟨bt,0,none⟩) toks.length tc) 11 (iV (toks.length:Int)) 12 (iV ((i+1:Nat):Int))) (by simp) lE ⟨i+1,pre++[tk],rest,s,q.snoc o cur,_,_,oc,sb,sc,_,_,_,rfl,rfl,rfl,by rw[htk];simp,by simp[hpi],hm.trans (Gc h2 h4),by simp only[List.length_cons] at h200;omega,by rw[Fo.len_snoc];have:=hsl (o,q) (.head _);simp only at this;omega,KA hsl,(by rw[Fo.len_snoc];exact (hS12.ext hA14).knil),hX⟩);exact Af;exact Af;refine Ji rfl rfl ?_;have hr25:=(hbt.ext hX);have hr26:=hb3;refine DO mixed (A5 w3 [bt,b2]) (rd [0,1,2,4,5] (.br 3 (.rd 6 (.br 7 (.br 8 (.rd 9 (.rd 11 (.br 10 (.br 12 .fin .fin) (.br 12 (.br 10 .fin .fin) .fin)))) .fin) .fin)) (.br 7 (.br 3 (.rd 6 (.br 8 (.rd 9 (.rd 11 (.br 10 (.br 12 .fin .fin) (.br 12 (.br 10 .fin .fin) .fin)))) .fin)) .fin) .fin))) kR kR kR λw34 hE16 hz16=>?_;have hKp:A5 w3 [bt,b2] w34:=A5.cons hr25 hE16 (A5.cons hr26 hE16 (A5.nil _ _));refine⟨hKp,?_⟩;replace hb3:=hb3.ext hE16;replace hX:=hX.trans hE16;replace hA1:=hA1.trans hE16;refine Av rfl rfl (λ_ hS=>Ay rfl)<|Av rfl rfl (λ_ hS=>Ay rfl)<|Av rfl rfl (λ_ hS=>Eh st.length rfl rfl oM GC oM)<|Av rfl rfl (λ_ hS=>CT rfl DF (hr26.keep hS (.tail _ (.head _))) rfl)<|Av rfl rfl (λ_ hS=>Du rfl fB Kj rfl)<|An rfl ?_ ?_;obtain⟨_,ls,hes,hsb,hcell,hsl2,hsw,hsu⟩:=(hS.ext hA1).sblk
 cases hes
 refine Ab rfl (Ai rfl J6 hsb (by simpa using hcell))<|Ae (Ao hKp<|Av rfl rfl (λ_ hS=>Ld rfl Kk)<|An rfl ?_ Af);refine BZ rfl rfl Kk Kj rfl rfl rfl rfl rfl λb11 w35 hb23 hE17 hs11 hz17=>?_;replace hb3:=hb3.ext hE17;replace hX:=hX.trans hE17;replace hA1:=hA1.trans hE17;replace hKp:=hKp.ext hE17;refine Ae (Ao hKp<|An rfl ?_ Af);have hS0:=(hS.ext hA1);obtain⟨xs,hrow,hfc,hla⟩:=hS0.top;refine AY rfl Wy rfl rfl rfl rfl hrow hb23 rfl rfl oM oM λa3 c3 w36 hr27 hG7=>?_;obtain⟨u3,hS13⟩:=hS0.app hrow hfc hla ⟨0,0,0,0,[]⟩ (Eb.nil _ _ none 0) hr27 hG7 oM;obtain⟨lb,_,he3,-⟩:=hS13.tblk
 cases he3
 have hlo:lb<wl.heap.size∨lb=w35.heap.size:=by
  rcases hG7.own with h|h
  · exact .inl (htlt lb h.symm)
  · exact .inr (Option.some.inj h)
 have hlge:w35.heap.size≤w36.heap.size:=hG7.size;replace hX:=hX.grow hG7 (λb hb=>(hla b hb).1);have sz19:=hG7.size;replace hKp:=hKp.grow hG7 (by simp only[List.mem_cons,List.not_mem_nil,or_false];intro c hc e;have h1:=(hla c e.symm).1;have h2:=htlt c e.symm;omega);have hA15:=AS.refl w36;refine Ae (Ao hKp<|Av rfl rfl (λ_ hS=>Eh cur.len rfl rfl oM Kk oM)<|Av rfl rfl (λ_ hS=>Eh st.length rfl rfl oM GC oM)<|An rfl ?_ ?_);have hS0:=(hS13.ext hA15);obtain⟨_,ll,hel,hlb,hll,hlw,hlu⟩:=hS0.tblk
 cases hel
 refine BV rfl rfl rfl KF rfl hlb rfl (by simp <;> omega) λw37 hb24 hC13=>?_;have hS14:=hS0.last' rfl hlb tk (Eb.nil _ _ none 0) hb24 hC13;replace hX:=hX.chg hC13 hlw;have sz20:=hC13.size;replace hKp:=hKp.chg hC13 nM;have hA16:=AS.refl w37;refine Ae (Ao hKp<|An rfl ?_ Af);have hS0:=(hS14.ext hA16);obtain⟨_,ls,hes,hsb,hcell,hsl2,hsw,hsu⟩:=hS0.sblk
 cases hes
 refine BV rfl rfl rfl J6 rfl hsb rfl (by simp <;> omega) λw38 hb25 hC14=>?_;have hS15:=hS0.cell' rfl hsb hb25 hC14;replace hX:=hX.chg hC14 hsw;have sz21:=hC14.size;replace hKp:=hKp.chg hC14 nM;have hA17:=AS.refl w38;refine Ae (Ao hKp<|Bz<|JA [.bk _,.bk _,.sq _] 7 [] (Ar _) (aI ⟨oM,oM⟩<|λ_=>GV rest.length (E5 3 (.slice (some ⟨sb,0,none⟩) (st.length+1) sc) 4 (.slice oa st.length oc) 10 (.slice (some ⟨bt,0,none⟩) toks.length tc) 11 (iV (toks.length:Int)) 12 (iV ((i+1:Nat):Int))) (by simp) lE ⟨i+1,pre++[tk],rest,st,cur.snoc tk .nil,_,oa,oc,sb,sc,_,_,_,rfl,rfl,rfl,by rw[htk];simp,by simp[hpi],hm.trans (Gf h2 h4),h200,by rw[Fo.len_snoc];omega,Jz hsl,(by rw[Fo.len_snoc];exact (hS15.ext hA17)),hX⟩));refine An rfl ?_ ?_;have hS0:=(hS13.ext hA15);obtain⟨_,ls,hes,hsb,hcell,hsl2,hsw,hsu⟩:=hS0.sblk
 cases hes
 refine BV rfl rfl rfl J6 rfl hsb rfl (by simp <;> omega) λw39 hb26 hC15=>?_;have hS16:=hS0.cell' rfl hsb hb26 hC15;replace hX:=hX.chg hC15 hsw;have sz22:=hC15.size;replace hKp:=hKp.chg hC15 nM;have hA18:=AS.refl w39;refine Ae (Ao hKp<|An rfl ?_ Af);have hS0:=(hS16.ext hA18);obtain⟨_,ll,hel,hlb,hll,hlw,hlu⟩:=hS0.tblk
 cases hel
 refine BV rfl rfl rfl KF rfl hlb rfl (by simp <;> omega) λw40 hb27 hC16=>?_;have hS17:=hS0.last' rfl hlb tk (Eb.nil _ _ none 0) hb27 hC16;replace hX:=hX.chg hC16 hlw;have sz23:=hC16.size;replace hKp:=hKp.chg hC16 nM;have hA19:=AS.refl w40;refine Ae (Ao hKp<|Bz<|JA [.bk _,.bk _,.sq _] 7 [] (Ar _) (aI ⟨oM,oM⟩<|λ_=>GV rest.length (E5 3 (.slice (some ⟨sb,0,none⟩) (st.length+1) sc) 4 (.slice oa st.length oc) 10 (.slice (some ⟨bt,0,none⟩) toks.length tc) 11 (iV (toks.length:Int)) 12 (iV ((i+1:Nat):Int))) (by simp) lE ⟨i+1,pre++[tk],rest,st,cur.snoc tk .nil,_,oa,oc,sb,sc,_,_,_,rfl,rfl,rfl,by rw[htk];simp,by simp[hpi],hm.trans (Gf h2 h4),h200,by rw[Fo.len_snoc];omega,Jz hsl,(by rw[Fo.len_snoc];exact (hS17.ext hA19)),hX⟩));exact Af;refine An rfl ?_ ?_;refine BZ rfl rfl Kk Kj rfl rfl rfl rfl rfl λb12 w41 hb28 hE18 hs12 hz18=>?_;replace hb3:=hb3.ext hE18;replace hX:=hX.trans hE18;replace hA1:=hA1.trans hE18;replace hKp:=hKp.ext hE18;refine Ae (Ao hKp<|An rfl ?_ Af);obtain⟨_,ls,hes,hsb,hcell,hsl2,hsw,hsu⟩:=(hS.ext hA1).sblk
 cases hes
 refine Ab rfl (Ai rfl J6 hsb (by simpa using hcell))<|Ae (Ao hKp<|Av rfl rfl (λ_ hS=>Ld rfl Kk)<|An rfl ?_ Af);have hS0:=(hS.ext hA1);obtain⟨xs,hrow,hfc,hla⟩:=hS0.top;refine AY rfl Wy rfl rfl rfl rfl hrow hb28 rfl rfl oM oM λa3 c3 w42 hr28 hG8=>?_;obtain⟨u3,hS18⟩:=hS0.app hrow hfc hla ⟨0,0,0,0,[]⟩ (Eb.nil _ _ none 0) hr28 hG8 oM;obtain⟨lb,_,he3,-⟩:=hS18.tblk
 cases he3
 have hlo:lb<wl.heap.size∨lb=w41.heap.size:=by
  rcases hG8.own with h|h
  · exact .inl (htlt lb h.symm)
  · exact .inr (Option.some.inj h)
 have hlge:w41.heap.size≤w42.heap.size:=hG8.size;replace hX:=hX.grow hG8 (λb hb=>(hla b hb).1);have sz24:=hG8.size;replace hKp:=hKp.grow hG8 (by simp only[List.mem_cons,List.not_mem_nil,or_false];intro c hc e;have h1:=(hla c e.symm).1;have h2:=htlt c e.symm;omega);have hA20:=AS.refl w42;refine Ae (Ao hKp<|Av rfl rfl (λ_ hS=>Eh cur.len rfl rfl oM Kk oM)<|Av rfl rfl (λ_ hS=>Eh st.length rfl rfl oM GC oM)<|An rfl ?_ ?_);have hS0:=(hS18.ext hA20);obtain⟨_,ll,hel,hlb,hll,hlw,hlu⟩:=hS0.tblk
 cases hel
 refine BV rfl rfl rfl KF rfl hlb rfl (by simp <;> omega) λw43 hb29 hC17=>?_;have hS19:=hS0.last' rfl hlb tk (Eb.nil _ _ none 0) hb29 hC17;replace hX:=hX.chg hC17 hlw;have sz25:=hC17.size;replace hKp:=hKp.chg hC17 nM;have hA21:=AS.refl w43;refine Ae (Ao hKp<|An rfl ?_ Af);have hS0:=(hS19.ext hA21);obtain⟨_,ls,hes,hsb,hcell,hsl2,hsw,hsu⟩:=hS0.sblk
 cases hes
 refine BV rfl rfl rfl J6 rfl hsb rfl (by simp <;> omega) λw44 hb30 hC18=>?_;have hS20:=hS0.cell' rfl hsb hb30 hC18;replace hX:=hX.chg hC18 hsw;have sz26:=hC18.size;replace hKp:=hKp.chg hC18 nM;have hA22:=AS.refl w44;refine Ae (Ao hKp<|Bz<|JA [.bk _,.bk _,.sq _] 7 [] (Ar _) (aI ⟨oM,oM⟩<|λ_=>GV rest.length (E5 3 (.slice (some ⟨sb,0,none⟩) (st.length+1) sc) 4 (.slice oa st.length oc) 10 (.slice (some ⟨bt,0,none⟩) toks.length tc) 11 (iV (toks.length:Int)) 12 (iV ((i+1:Nat):Int))) (by simp) lE ⟨i+1,pre++[tk],rest,st,cur.snoc tk .nil,_,oa,oc,sb,sc,_,_,_,rfl,rfl,rfl,by rw[htk];simp,by simp[hpi],hm.trans (Gf h2 h4),h200,by rw[Fo.len_snoc];omega,Jz hsl,(by rw[Fo.len_snoc];exact (hS20.ext hA22)),hX⟩));refine An rfl ?_ ?_;have hS0:=(hS18.ext hA20);obtain⟨_,ls,hes,hsb,hcell,hsl2,hsw,hsu⟩:=hS0.sblk
 cases hes
 refine BV rfl rfl rfl J6 rfl hsb rfl (by simp <;> omega) λw45 hb31 hC19=>?_;have hS21:=hS0.cell' rfl hsb hb31 hC19;replace hX:=hX.chg hC19 hsw;have sz27:=hC19.size;replace hKp:=hKp.chg hC19 nM;have hA23:=AS.refl w45;refine Ae (Ao hKp<|An rfl ?_ Af);have hS0:=(hS21.ext hA23);obtain⟨_,ll,hel,hlb,hll,hlw,hlu⟩:=hS0.tblk
 cases hel
 refine BV rfl rfl rfl KF rfl hlb rfl (by simp <;> omega) λw46 hb32 hC20=>?_;have hS22:=hS0.last' rfl hlb tk (Eb.nil _ _ none 0) hb32 hC20;replace hX:=hX.chg hC20 hlw;have sz28:=hC20.size;replace hKp:=hKp.chg hC20 nM;have hA24:=AS.refl w46;refine Ae (Ao hKp<|Bz<|JA [.bk _,.bk _,.sq _] 7 [] (Ar _) (aI ⟨oM,oM⟩<|λ_=>GV rest.length (E5 3 (.slice (some ⟨sb,0,none⟩) (st.length+1) sc) 4 (.slice oa st.length oc) 10 (.slice (some ⟨bt,0,none⟩) toks.length tc) 11 (iV (toks.length:Int)) 12 (iV ((i+1:Nat):Int))) (by simp) lE ⟨i+1,pre++[tk],rest,st,cur.snoc tk .nil,_,oa,oc,sb,sc,_,_,_,rfl,rfl,rfl,by rw[htk];simp,by simp[hpi],hm.trans (Gf h2 h4),h200,by rw[Fo.len_snoc];omega,Jz hsl,(by rw[Fo.len_snoc];exact (hS22.ext hA24)),hX⟩));exact Af;exact Af;refine AQ [.sq _] 3 [] (Ar _) (λ_=>Mn<|JA [.bk _,.sq _] 4 [] (Ar _) (λ_=>?_))
 have hrz:rest=[]:=by
  rcases rest with _|⟨t9,rest⟩
  · rfl
  · simp at hil;have:=h1;simp at this;omega
 subst hrz;refine AQ [.sq _,.sq _] 6 [] (Ar _) (λ_=>sP 104 rfl (λh6=>?_) (λh6=>?_));refine F2 rfl rfl ?_;rcases st with _|⟨o,s⟩
 · simp at h6
 obtain⟨ob,lo,lo2,tz,fz,hoa,hob,hoz,hod⟩:=(hS.ext hA1).oblk0
 cases hoa
 exact AQ [.sq _] 2 [] (Ar _) (λ_=>Ab rfl (JJ (i:=0) rfl rfl GB (by simp))<|Ab rfl (B9 rfl cG)<|Ab rfl (La 1 rfl Iq hob hod oM rfl)<|Ab rfl (Du rfl oD uI rfl)<|Ab rfl (BL rfl aF)<|Cf (BA rfl) (aI rfl<|⟨(tz.ln,tz.co),hm.trans (SB hoz),rfl,hX⟩));refine AQ [.sq _] 4 [] (Ar _) (λ_=>?_);rcases st with _|⟨o,s⟩
 rotate_left
 · simp at h6
 refine AQ [.sq _] 2 [] (Ar _) (λ_=>Ab rfl (JJ (i:=0) rfl rfl GC oM) ?_);obtain⟨_,ls,hes,hsb,hcell,hsl2,hsw,hsu⟩:=(hS.ext hA1).sblk
 cases hes
 exact Ab rfl (Ai rfl J6 hsb (by simpa using hcell))<|AH [.sq _] 4 [] (Ar _) (λ_=>Bm (A9 rfl (Ah rfl))<|⟨cur,a,c,hm.trans RC,rfl,(hS.ext hA1).out,hX⟩)
end Go.Proofs.YtelmolopaolbcaaGreatDoor
