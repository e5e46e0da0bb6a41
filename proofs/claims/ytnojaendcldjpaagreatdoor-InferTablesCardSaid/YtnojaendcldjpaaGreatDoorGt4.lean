/- What it rests on, part 4. -/
import Derived.Test.YtnojaendcldjpaaGreatDoorGt3
import Derived.Shelf.Strings.OnBuilder
import Derived.Shelf.Strconv.Itoa3
import Derived.Shelf.Strings.Fields
set_option linter.unusedVariables false
set_option linter.unusedSimpArgs false
namespace Go.Proofs.YtnojaendcldjpaaGreatDoor
open Go.SW Go.SP Go.RowKit Go.Proofs.Tryz
theorem Fl(hPF:PFS)(w:wO)(hG:Gl w)(s:lU)(hlen:s.length≤100000)(hne:s≠[])(at1:Ps) :
  BV prog 83 #[S s,.agg #[iV at1.1,iV at1.2]] w (λv w'=>∃k nm tx,D9 s=some (k,nm,tx)∧v=.agg #[iV k,iV at1.1,iV at1.2,iV nm,S tx]∧AW w w') (λc w'=>D9 s=none∧c=RG 113 at1∧AW w w'):=by
 have U:(1:Int)≤s.length:=by
  cases s with
  |nil=>exact absurd C hne
  |cons a r=>simp only[List.length_cons];omega
 have D:=AW.refl w;refine HZ func83 C C C<|Az [] 2 (λ_=>DV C C C λb1 w1 d hE1 hs1 hz1=>?_);have D:=D.trans hE1;refine CF C DA λb2 w2 h hE2 hs2 hz2=>?_;have d:=d.ext hE2;have D:=D.trans hE2;refine Ay [.sq _] 6 (λ_=>A0 C (As xQ C C) (Xt _ (hG.ext D) s hlen) ?_);rintro _ w3 ⟨(⟨n,W,rfl⟩|⟨W,er,her,rfl⟩),hE3⟩;have d:=d.ext hE3;have h:=h.ext hE3;have D:=D.trans hE3;have sz1:=hE3.size;refine K0 [.sq _,.sq _] 19 [0,0] (kB d (Fb _)) (y2<|λ_=>AA C C C DO C h C C λw4 K F=>?_);have d:=d.chg F oM;have D:=D.chg F oM;have sz2:=F.size;exact Ay [.sq _,.sq _] 4 (λ_=>Bp (Ao C (Ab C DO K C))<|⟨2,n,[],by rw[D9,W],C,D⟩);have d:=d.ext hE3;have h:=h.ext hE3;have D:=D.trans hE3;have sz1:=hE3.size;refine Ay [.sq _,.sq _] 13 (λ_=>kP 16 false C her<|Az [.sq _] 7 (λ_=>A0 C (As xX C C) (Np hPF _ (hG.ext D) s hlen) ?_));rintro _ w4 ⟨(⟨x,hf,rfl⟩|⟨hf,ef,hef,rfl⟩),hE4⟩;have d:=d.ext hE4;have h:=h.ext hE4;have D:=D.trans hE4;have sz2:=hE4.size;refine Ay [.sq _,.sq _] 15 (λ_=>?_);have hr1:=d;refine DN mixed (A4 w4 [b1]) [(true,0),(true,1),(false,2),(true,3),(false,4)] kR kR C C λw5 Y hz3=>?_;have hKp:A4 w4 [b1] w5:=A4.cons hr1 Y (A4.nil _ _);refine⟨hKp,?_⟩;have d:=d.ext Y;have h:=h.ext Y;have D:=D.trans Y;refine Ax C (λ_ hS=>C4 C Iw (hr1.keep hS (.head _)) C)<|Ax C (λ_ hS=>Aw C)<|Eh<|A0 C (As tS C C) (Vz _ x) ?_;rintro _ w6 ⟨rfl,L⟩;have d:=d.ext L;have h:=h.ext L;have D:=D.trans L;have hKp:=hKp.ext L;have sz3:=L.size;refine Ah (Gx hKp<|Ax C (λ_ hS=>D5 C Tf DA C)<|Eh<|AA C C C DO C h C C λw7 K F=>?_);have d:=d.chg F oM;have D:=D.chg F oM;have hKp:=hKp.chg F nM;have sz4:=F.size;exact Ah (Gx hKp<|DY<|El [.sq _,.sq _] 3 (λ_=>Bp (Ao C (Ab C DO K C))<|⟨3,0,LP x,by rw[D9,W];simp only[hf],C,D⟩));have d:=d.ext hE4;have h:=h.ext hE4;have D:=D.trans hE4;have sz2:=hE4.size;refine Ay [.sq _,.sq _] 13 (λ_=>kP 26 false C hef<|Az [.sq _] 6 (λ_=>A0 C (As UY C C) (FQ _ s [45]) ?_));rintro _ w5 ⟨rfl,Y⟩;have d:=d.ext Y;have h:=h.ext Y;have D:=D.trans Y;have sz3:=Y.size;refine Ay [.sq _] 11 (λ_=>sL 37 C (λh1=>?_) (λh1=>?_));exact K0 [.sq _,.bk _,.sq _] 17 [0,0] (kB d (Fb _)) (y2<|λ_=>Ac C (B7 C FG)<|BX (B2 C) (aI C<|⟨by rw[BZ W hf,h1];rfl,C,D⟩));refine Ay [.sq _,.bk _,.sq _] 3 (λ_=>sL 40 C (λh2=>?_) (λh2=>?_));refine Ay [.sq _,.bk _,.sq _] 1 (λ_=>Bw C C C<|A0 C (As Fu C C) (CG _ (AG s) (by have:=Fh s;omega) DQ dC dC) ?_);rintro _ w6 ⟨rfl,L⟩;have d:=d.ext L;have h:=h.ext L;have D:=D.trans L;have sz4:=L.size;refine Ay [.sq _,.bk _,.sq _] 5 (λ_=>sP 33 C (λh3=>?_) (λh3=>?_));refine OV [.bk _,.sq _] 7 [0,0] (kB d (Fb _)) (y2<|λ_=>Ac C (B7 C FG)<|BX (B2 C) (aI C ?_));have G:(!(AG s==[]))=true:=h2
 exact⟨by rw[BZ W hf,h1,G,h3];rfl,C,D⟩;refine Az [.bk _,.sq _] 4 (λ_=>Ac C (F9 C C J7 ⟨dC,U⟩)<|A0 C (As Fu C C) (CG _ (s.take 1) (by simp only[List.length_take];omega) D3 dC dC) ?_);rintro _ w7 ⟨rfl,O⟩;have d:=d.ext O;have h:=h.ext O;have D:=D.trans O;have sz5:=O.size;refine Ac C (Aw C)<|sL 49 C (λZ=>?_) (λZ=>?_);refine Ay [.sq _,.bk _,.sq _] 1 (λ_=>Bw C C C<|A0 C (As Fu C C) (CG _ (s) oM (D3++Dh++DQ) dC dC) ?_);rintro _ w8 ⟨rfl,J⟩;have d:=d.ext J;have h:=h.ext J;have D:=D.trans J;have sz6:=J.size;refine Ay [.sq _,.bk _,.sq _] 4 (λ_=>sP 45 C (λh5=>?_) (λh5=>?_));refine OV [.bk _,.sq _] 6 [0,0] (kB d (Fb _)) (y2<|λ_=>AA C C C DO C h C C λw9 K F=>?_);have d:=d.chg F oM;have D:=D.chg F oM;have sz7:=F.size;refine Ay [.sq _,.bk _,.sq _] 5 (λ_=>Bp (Ao C (Ab C DO K C)) ?_);have G:(!(AG s==[]))=true:=h2;exact⟨6,0,s,by rw[BZ W hf,h1,G,h3,Z,h5];rfl,C,D⟩;refine Az [.bk _,.sq _] 4 (λ_=>Ac C (F9 C C J7 ⟨dC,U⟩)<|A0 C (As Fu C C) (CG _ (s.take 1) (by simp only[List.length_take];omega) (Dh++CT) dC dC) ?_);rintro _ w9 ⟨rfl,Q⟩;have d:=d.ext Q;have h:=h.ext Q;have D:=D.trans Q;have sz7:=Q.size;refine Ac C (Aw C)<|sL 60 C (λh6=>?_) (λh6=>?_);refine Ay [.sq _,.bk _,.sq _] 1 (λ_=>Bw C C C<|A0 C (As Fu C C) (CG _ (s) oM (D3++Dh++DQ++CT) dC dC) ?_);rintro _ w10 ⟨rfl,hE10⟩;have d:=d.ext hE10;have h:=h.ext hE10;have D:=D.trans hE10;have sz8:=hE10.size;refine Ay [.sq _,.bk _,.sq _] 4 (λ_=>sP 56 C (λh7=>?_) (λh7=>?_));refine OV [.bk _,.sq _] 6 [0,0] (kB d (Fb _)) (y2<|λ_=>AA C C C DO C h C C λw11 K F=>?_);have d:=d.chg F oM;have D:=D.chg F oM;have sz9:=F.size;refine Ay [.sq _,.bk _,.sq _] 5 (λ_=>Bp (Ao C (Ab C DO K C)) ?_);have G:(!(AG s==[]))=true:=h2;exact⟨5,0,s,by rw[BZ W hf,h1,G,h3,Z,h5,h6,h7];rfl,C,D⟩;refine OV [.bk _,.sq _] 7 [0,0] (kB d (Fb _)) (y2<|λ_=>Ac C (B7 C FG)<|BX (B2 C) (aI C ?_));have G:(!(AG s==[]))=true:=h2;exact⟨by rw[BZ W hf,h1,G,h3,Z,h5,h6,h7];rfl,C,D⟩;refine K0 [.sq _,.bk _,.sq _] 13 [0,0] (kB d (Fb _)) (y2<|λ_=>Ac C (B7 C FG)<|BX (B2 C) (aI C ?_));have G:(!(AG s==[]))=true:=h2;exact⟨by rw[BZ W hf,h1,G,h3,Z,h5,h6];rfl,C,D⟩;refine Ay [.sq _,.bk _,.sq _] 10 (λ_=>Ac C (F9 C C J7 ⟨dC,U⟩)<|A0 C (As Fu C C) (CG _ (s.take 1) (by simp only[List.length_take];omega) (Dh++CT) dC dC) ?_);rintro _ w8 ⟨rfl,J⟩;have d:=d.ext J;have h:=h.ext J;have D:=D.trans J;have sz6:=J.size;refine Ac C (Aw C)<|sL 60 C (λh5=>?_) (λh5=>?_);refine Ay [.sq _,.bk _,.sq _] 1 (λ_=>Bw C C C<|A0 C (As Fu C C) (CG _ (s) oM (D3++Dh++DQ++CT) dC dC) ?_);rintro _ w9 ⟨rfl,Q⟩;have d:=d.ext Q;have h:=h.ext Q;have D:=D.trans Q;have sz7:=Q.size
 refine Ay [.sq _,.bk _,.sq _] 4 (λ_=>sP 56 C (λh6=>?_) (λh6=>?_));refine OV [.bk _,.sq _] 6 [0,0] (kB d (Fb _)) (y2<|λ_=>AA C C C DO C h C C λw10 K F=>?_);have d:=d.chg F oM;have D:=D.chg F oM;have sz8:=F.size;refine Ay [.sq _,.bk _,.sq _] 5 (λ_=>Bp (Ao C (Ab C DO K C)) ?_);have G:(!(AG s==[]))=true:=h2;exact⟨5,0,s,by rw[BZ W hf,h1,G,h3,Z,h5,h6];rfl,C,D⟩;refine OV [.bk _,.sq _] 7 [0,0] (kB d (Fb _)) (y2<|λ_=>Ac C (B7 C FG)<|BX (B2 C) (aI C ?_));have G:(!(AG s==[]))=true:=h2;exact⟨by rw[BZ W hf,h1,G,h3,Z,h5,h6];rfl,C,D⟩;refine K0 [.sq _,.bk _,.sq _] 13 [0,0] (kB d (Fb _)) (y2<|λ_=>Ac C (B7 C FG)<|BX (B2 C) (aI C ?_));have G:(!(AG s==[]))=true:=h2;exact⟨by rw[BZ W hf,h1,G,h3,Z,h5];rfl,C,D⟩;refine Ay [.sq _,.bk _,.sq _] 11 (λ_=>Ac C (F9 C C J7 ⟨dC,U⟩)<|A0 C (As Fu C C) (CG _ (s.take 1) (by simp only[List.length_take];omega) D3 dC dC) ?_);rintro _ w6 ⟨rfl,L⟩;have d:=d.ext L;have h:=h.ext L;have D:=D.trans L;have sz4:=L.size;refine Ac C (Aw C)<|sL 49 C (λh3=>?_) (λh3=>?_);refine Ay [.sq _,.bk _,.sq _] 1 (λ_=>Bw C C C<|A0 C (As Fu C C) (CG _ (s) oM (D3++Dh++DQ) dC dC) ?_);rintro _ w7 ⟨rfl,O⟩;have d:=d.ext O;have h:=h.ext O;have D:=D.trans O;have sz5:=O.size;refine Ay [.sq _,.bk _,.sq _] 4 (λ_=>sP 45 C (λZ=>?_) (λZ=>?_));refine OV [.bk _,.sq _] 6 [0,0] (kB d (Fb _)) (y2<|λ_=>AA C C C DO C h C C λw8 K F=>?_);have d:=d.chg F oM;have D:=D.chg F oM;have sz6:=F.size;refine Ay [.sq _,.bk _,.sq _] 5 (λ_=>Bp (Ao C (Ab C DO K C)) ?_);have G:(!(AG s==[]))=false:=h2;exact⟨6,0,s,by rw[BZ W hf,h1,G,h3,Z];rfl,C,D⟩;refine Az [.bk _,.sq _] 4 (λ_=>Ac C (F9 C C J7 ⟨dC,U⟩)<|A0 C (As Fu C C) (CG _ (s.take 1) (by simp only[List.length_take];omega) (Dh++CT) dC dC) ?_);rintro _ w8 ⟨rfl,J⟩;have d:=d.ext J;have h:=h.ext J;have D:=D.trans J;have sz6:=J.size;refine Ac C (Aw C)<|sL 60 C (λh5=>?_) (λh5=>?_);refine Ay [.sq _,.bk _,.sq _] 1 (λ_=>Bw C C C<|A0 C (As Fu C C) (CG _ (s) oM (D3++Dh++DQ++CT) dC dC) ?_);rintro _ w9 ⟨rfl,Q⟩;have d:=d.ext Q;have h:=h.ext Q;have D:=D.trans Q;have sz7:=Q.size;refine Ay [.sq _,.bk _,.sq _] 4 (λ_=>sP 56 C (λh6=>?_) (λh6=>?_));refine OV [.bk _,.sq _] 6 [0,0] (kB d (Fb _)) (y2<|λ_=>AA C C C DO C h C C λw10 K F=>?_);have d:=d.chg F oM;have D:=D.chg F oM;have sz8:=F.size;refine Ay [.sq _,.bk _,.sq _] 5 (λ_=>Bp (Ao C (Ab C DO K C)) ?_);have G:(!(AG s==[]))=false:=h2;exact⟨5,0,s,by rw[BZ W hf,h1,G,h3,Z,h5,h6];rfl,C,D⟩;refine OV [.bk _,.sq _] 7 [0,0] (kB d (Fb _)) (y2<|λ_=>Ac C (B7 C FG)<|BX (B2 C) (aI C ?_));have G:(!(AG s==[]))=false:=h2;exact⟨by rw[BZ W hf,h1,G,h3,Z,h5,h6];rfl,C,D⟩
 refine K0 [.sq _,.bk _,.sq _] 13 [0,0] (kB d (Fb _)) (y2<|λ_=>Ac C (B7 C FG)<|BX (B2 C) (aI C ?_));have G:(!(AG s==[]))=false:=h2;exact⟨by rw[BZ W hf,h1,G,h3,Z,h5];rfl,C,D⟩;refine Ay [.sq _,.bk _,.sq _] 10 (λ_=>Ac C (F9 C C J7 ⟨dC,U⟩)<|A0 C (As Fu C C) (CG _ (s.take 1) (by simp only[List.length_take];omega) (Dh++CT) dC dC) ?_);rintro _ w7 ⟨rfl,O⟩;have d:=d.ext O;have h:=h.ext O;have D:=D.trans O;have sz5:=O.size;refine Ac C (Aw C)<|sL 60 C (λZ=>?_) (λZ=>?_);refine Ay [.sq _,.bk _,.sq _] 1 (λ_=>Bw C C C<|A0 C (As Fu C C) (CG _ (s) oM (D3++Dh++DQ++CT) dC dC) ?_);rintro _ w8 ⟨rfl,J⟩;have d:=d.ext J;have h:=h.ext J;have D:=D.trans J;have sz6:=J.size;refine Ay [.sq _,.bk _,.sq _] 4 (λ_=>sP 56 C (λh5=>?_) (λh5=>?_));refine OV [.bk _,.sq _] 6 [0,0] (kB d (Fb _)) (y2<|λ_=>AA C C C DO C h C C λw9 K F=>?_);have d:=d.chg F oM;have D:=D.chg F oM;have sz7:=F.size;refine Ay [.sq _,.bk _,.sq _] 5 (λ_=>Bp (Ao C (Ab C DO K C)) ?_);have G:(!(AG s==[]))=false:=h2;exact⟨5,0,s,by rw[BZ W hf,h1,G,h3,Z,h5];rfl,C,D⟩;refine OV [.bk _,.sq _] 7 [0,0] (kB d (Fb _)) (y2<|λ_=>Ac C (B7 C FG)<|BX (B2 C) (aI C ?_));have G:(!(AG s==[]))=false:=h2;exact⟨by rw[BZ W hf,h1,G,h3,Z,h5];rfl,C,D⟩;refine K0 [.sq _,.bk _,.sq _] 13 [0,0] (kB d (Fb _)) (y2<|λ_=>Ac C (B7 C FG)<|BX (B2 C) (aI C ?_));have G:(!(AG s==[]))=false:=h2;exact⟨by rw[BZ W hf,h1,G,h3,Z];rfl,C,D⟩
theorem Xm(hPF:PFS)(w0 w:wO)(hG:Gl w0)(hX0:AW w0 w)(b:Nat)(hb0:w0.heap.size≤b)(src:lU)(i:Nat)(p:Ps)(U:List Aq)(ta:oA)(tc:Nat)(hsc:AS w b [S src,iV ((i:Nat):Int),iV p.1,iV p.2,(.slice ta U.length tc)] 116)(d:BQ w 117 5 ta tc U.length (EK U))(O:∀x,rb ta=some x→w0.heap.size≤x∧x≠b)(c:UInt8)(hc:src[i]?=some c)(hp:Pk i p)(hlen:src.length≤65536)(htl:U.length≤i) :
  BV prog 40 #[pB b] w (λv w'=>∃(ot:List Aq)(i1:Nat)(p1:Ps)(ta1:oA)(tc1:Nat),Dw (src.length+1) p (src.drop i)=.ok (ot,src.drop i1,p1)∧v=.tuple #[]∧AS w' b [S src,iV ((i1:Nat):Int),iV p1.1,iV p1.2,(.slice ta1 (U++ot).length tc1)] 116∧BQ w' 117 5 ta1 tc1 (U++ot).length (EK (U++ot))∧(∀x,rb ta1=some x→w0.heap.size≤x∧x≠b)∧AW w0 w'∧i<i1∧i1≤src.length∧Pk i1 p1) (λcc w'=>∃e,Dw (src.length+1) p (src.drop i)=.error e∧cc=RG 113 e∧AW w0 w'):=by
 have hbl:=hsc.lt;have hilt:=Ca hc;have hlowl:∀x,rb ta=some x→x<w.heap.size:=λx hx=>d.lt hx;have J:=hX0;refine HZ func40 C C C<|BF ?_;have hr1:=hsc;refine DN mixed (A4 w [b]) [(true,0),(true,1),(true,2),(true,3),(true,4),(true,5),(true,6),(true,7),(false,8),(false,9),(true,10)] kR kR C C λw1 hE1 hz1=>?_;have h:A4 w [b] w1:=A4.cons hr1 hE1 (A4.nil _ _);refine⟨h,?_⟩;have hsc:=hsc.ext hE1;have d:=d.ext hE1;have J:=J.trans hE1;refine Ax C (λ_ L=>Aw C)<|Ax C (λ_ L=>Cj C)<|Ax C (λ_ L=>CB C Q6)<|Ax C (λ_ L=>C4 C Iw (hr1.keep L (.head _)) C)<|Ax C (λ_ L=>Aw C)<|Ax C (λ_ L=>Cj C)<|Ax C (λ_ L=>CB C ER)<|Ax C (λ_ L=>Ai C Ux (hr1.keep L (.head _)) C)<|Eh<|CF C Vo λb1 w2 hb1 hE2 hs1 hz2=>?_;have hsc:=hsc.ext hE2;have d:=d.ext hE2;have J:=J.trans hE2;have h:=h.ext hE2;refine Ah (Gx h<|Eh<|AA C C C Iw C hb1 C C λw3 Y hC1=>?_);have hsc:=hsc.chg hC1 oM;have d:=BQ.chg d hC1 (λe=>by have:=O _ e;have:=hlowl _ e;omega);have J:=J.chg hC1 oM;have h:=h.chg hC1 nM;have sz1:=hC1.size;refine Ah (Gx h<|Ax C (λ_ L=>CV C)<|DY<|El [.sq _] 4 (λ_=>A0 C (As Ot C C) (Ft _ b src i p (.slice ta U.length tc) hsc c hc oM hp) ?_));rintro _ w4 ⟨rfl,Z,hE3⟩;have d:=BQ.exb d hE3 (λe=>by have:=O _ e;omega);have Y:=Y.exb hE3 oM;have J:=hE3.ext J hb0;have sz2:=hE3.size;have hp1:=Pk.adv (c:=c) hp;refine Ay [.sq _] 7 (λ_=>A0 C (As W6 C C) (EC _ EA _) ?_);rintro _ w5 ⟨rfl,hE4⟩;have d:=d.ext hE4;have Y:=Y.ext hE4;have Z:=Z.ext hE4;have J:=J.trans hE4;have sz3:=hE4.size;refine Ay [.sq _,.bk _] 4 (λ_=>?_)
 ·
  refine sP 53 C (λh1=>?_) (λh1=>?_);exact Az [.bk _] 3 (λ_=>MA (Gz C)<|⟨[],i+1,adv c p,ta,tc,M6 hc h1,C,by rw[List.append_nil];exact Z,by rw[List.append_nil];exact d,O,J,oM,by have:=Ca hc;omega,hp1⟩);refine Az [.bk _] 8 (λ_=>sP 57 C (λh2=>?_) (λh2=>?_));refine Az [.bk _] 2 (λ_=>?_);refine DM (λk σ ds w'=>∃(j:Nat)(q:Ps),k=src.length-j∧ds=[]∧σ=(AI SW.e0 0 (pB b))∧i<j∧j≤src.length∧Pk j q∧L4 (adv c p) (src.drop (i+1))=L4 q (src.drop j)∧AS w' b [S src,iV ((j:Nat):Int),iV q.1,iV q.2,(.slice ta U.length tc)] 116∧AS w' b1 [iV p.1,iV p.2] 41 ∧ BQ w' 117 5 ta tc U.length (EK U)∧AW w0 w') (src.length-(i+1)) (AI SW.e0 0 (pB b)) lE ⟨i+1,adv c p,C,C,C,oM,by have:=Ca hc;omega,hp1,C,Z,Y,d,J⟩ ?_;rintro _ _ _ wl ⟨j,q,rfl,rfl,rfl,hij,hjl,hq,hm,D,K,d,J⟩;have szl:=J.size;have lt2:=K.lt;have lts:=D.lt;refine Az [] 2 (λ_=>?_);have W:=D;have hr3:=K;refine DN mixed (A4 wl [b,b1]) [(true,0),(false,1),(true,2),(true,3),(true,4),(true,5),(true,6),(true,7),(true,8),(true,9),(true,10),(true,11),(true,12),(true,13)] kR kR C C λw6 Q hz3=>?_;have h:A4 wl [b,b1] w6:=A4.cons W Q (A4.cons hr3 Q (A4.nil _ _));refine⟨h,?_⟩;have D:=D.ext Q;have K:=K.ext Q;have d:=d.ext Q;have J:=J.trans Q;refine Ax C (λ_ L=>Aw C)<|Eh<|A0 C (As S4 C C) (H5 _ b src j q (.slice ta U.length tc) D) ?_;rintro _ w7 ⟨rfl,F⟩;have D:=D.ext F;have K:=K.ext F;have d:=d.ext F;have J:=J.trans F;have h:=h.ext F;have sz4:=F.size;refine Ah (Gx h<|Ax C (λ_ L=>Aw C)<|Pu 62 C (λh3=>?_) (λh3=>?_));have hjlt:j<src.length:=by have:=dT h3;omega
  obtain⟨c1,hc1⟩:=G7 hjlt;refine C0 C C C h3 (λ_ L=>Aw C)<|C0 C C C h3 (λ_ L=>Cj C)<|C0 C C C h3 (λ_ L=>CB C Ha)<|C0 C C C h3 (λ_ L=>Ai C Yu (W.keep L (.head _)) C)<|C0 C C C h3 (λ_ L=>Aw C)<|C0 C C C h3 (λ_ L=>Cj C)<|C0 C C C h3 (λ_ L=>CB C ER)<|C0 C C C h3 (λ_ L=>Ai C Ux (W.keep L (.head _)) C)<|C0 C C C h3 (λ_ L=>C1 (c:=c1) C C J7 oM (by rw[Int.toNat_natCast];exact hc1))<|C0 C C C h3 (λ_ L=>cL C C) ?_;refine Ax C (λ_ L=>O2 C h3 C)<|DY<|Dr<|sP 73 C (λh4=>?_) (λh4=>?_);refine Az [.sq _] 6 (λ_=>A0 C (As Ot C C) (Ft _ b src j q (.slice ta U.length tc) D c1 hc1 oM hq) ?_);rintro _ w8 ⟨rfl,hb4,G⟩;have K:=K.exb G oM;have d:=BQ.exb d G (λe=>by have:=O _ e;omega);have J:=G.ext J hb0;have sz5:=G.size;have hp2:=Pk.adv (c:=c1) hq;refine Ay [.bk _] 2 (λ_=>GS (src.length-(j+1)) (AI SW.e0 0 (pB b)) (by have:=Ca hc1;omega) lE ⟨j+1,adv c1 q,C,C,C,oM,by have:=Ca hc1;omega,hp2,hm.trans (LO hc1 h4),hb4,K,d,J⟩);exact Az [.sq _] 3 (λ_=>Ox<|El [.bk _,.bk _] 2 (λ_=>MA (Gz C)<|⟨[],j,q,ta,tc,by rw[LN hc h1 h2,hm,Ju (.inr ⟨c1,hc1,h4⟩)],C,by rw[List.append_nil];exact D,by rw[List.append_nil];exact d,O,J,hij,hjl,hq⟩));refine Cz C C C h3<|Cz C C C h3<|Cz C C C h3<|Cz C C C h3<|Cz C C C h3<|Cz C C C h3<|Cz C C C h3<|Cz C C C h3<|Cz C C C h3<|Cz C C C h3 ?_;exact Ax C (λ_ L=>Nr C h3 C)<|DY<|El [.sq _,.sq _] 4 (λ_=>Ox<|El [.bk _,.bk _] 2 (λ_=>MA (Gz C)<|⟨[],j,q,ta,tc,by rw[LN hc h1 h2,hm,Ju (.inl (by have:=dF h3;omega))],C,by rw[List.append_nil];exact D,by rw[List.append_nil];exact d,O,J,hij,hjl,hq⟩));refine Az [.bk _] 8 (λ_=>sP 76 C (λh3=>?_) (λh3=>?_));refine F2 C C ?_;have W:=Y;refine DZ mixed (A4 w5 [b1]) (rd [0,1,2,3,5,6] (.br 4 (.br 7 (.br 8 (.rd 9 (.rd 10 (.br 11 .fin .fin))) .fin) .fin) (.br 7 (.br 4 (.br 8 (.rd 9 (.rd 10 (.br 11 .fin .fin))) .fin) .fin) .fin))) kR kR kR λw6 Q hz3=>?_;have h:A4 w5 [b1] w6:=A4.cons W Q (A4.nil _ _);refine⟨h,?_⟩;have d:=d.ext Q;have Y:=Y.ext Q;have Z:=Z.ext Q;have J:=J.trans Q;refine A8 C C (λ_ L=>Aw C)<|A8 C C (λ_ L=>Aw C)<|A8 C C (λ_ L=>Cj C)<|A8 C C (λ_ L=>CB C Gh)<|A8 C C (λ_ L=>C4 C Iw (W.keep L (.head _)) C)<|A8 C C (λ_ L=>D5 C Tf DA C) ?_
  ·
   refine Bn C ?_ ?_;refine Ac C (Ai C EU Z C)<|Ah (A6 h<|AH C<|BU C C GR DA C C C C C λb2 w7 hb4 F hs2 hz4=>?_);have d:=d.ext F;have Y:=Y.ext F;have Z:=Z.ext F;have J:=J.trans F;have h:=h.ext F
   rotate_left
   refine Bn C ?_ ?_;refine BU C C GR DA C C C C C λb2 w7 hb4 F hs2 hz4=>?_;have d:=d.ext F;have Y:=Y.ext F;have Z:=Z.ext F;have J:=J.trans F;have h:=h.ext F;refine Ah (A6 h<|AH C<|Ac C (Ai C EU Z C) ?_)
   rotate_left
   exact BE
   all_goals
    refine Ah (A6 h<|AH C<|Cm C aT C C C C d hb4 C C oM oM λta2 tc2 w8 W hG2=>?_);have hlow2:∀x,rb ta2=some x→w0.heap.size≤x∧x≠b:=GB hG2 O oM;have Z:=Z.grow hG2 (λe=>by have:=O _ e.symm;have:=hlowl _ e.symm;omega);have J:=J.grow hG2 (λx hx=>(O x hx).1);have h:=h.grow hG2 (by simp only[List.mem_cons,List.not_mem_nil,or_false];intro c hc e;have:=O _ e.symm;have:=hlowl _ e.symm;omega);have sz4:=hG2.size;refine Ah (A6 h<|A8 C C (λ_ L=>Cj C)<|A8 C C (λ_ L=>CB C Gh)<|AH C<|AA C C C EU C Z C C λw9 hb5 hC2=>?_);have W:=BQ.chg W hC2 (λe=>by have:=hlow2 _ e;omega);have J:=J.chg hC2 oM;have h:=h.chg hC2 nM;have sz5:=hC2.size;exact Ah (A6 h<|D1<|IA<|MA (Gz C)<|⟨[⟨0,p.1,p.2,0,[]⟩],i+1,adv c p,ta2,tc2,SL hc h1 h2 h3,C,by rw[List.length_append];exact hb5,by rw[List.length_append,Gs];exact W,hlow2,J,oM,by first|omega|(have:=Ca hc;omega),hp1⟩)
  refine Az [.bk _] 8 (λ_=>sP 90 C (λh4=>?_) (λh4=>?_));refine F2 C C ?_;have W:=Y;refine DZ mixed (A4 w5 [b1]) (rd [0,1,2,3,5,6] (.br 4 (.br 7 (.br 8 (.rd 9 (.rd 10 (.br 11 .fin .fin))) .fin) .fin) (.br 7 (.br 4 (.br 8 (.rd 9 (.rd 10 (.br 11 .fin .fin))) .fin) .fin) .fin))) kR kR kR λw6 Q hz3=>?_;have h:A4 w5 [b1] w6:=A4.cons W Q (A4.nil _ _);refine⟨h,?_⟩;have d:=d.ext Q;have Y:=Y.ext Q;have Z:=Z.ext Q;have J:=J.trans Q;refine A8 C C (λ_ L=>Aw C)<|A8 C C (λ_ L=>Aw C)<|A8 C C (λ_ L=>Cj C)<|A8 C C (λ_ L=>CB C Gh)<|A8 C C (λ_ L=>C4 C Iw (W.keep L (.head _)) C)<|A8 C C (λ_ L=>D5 C Tf DA C) ?_
  ·
   refine Bn C ?_ ?_;refine Ac C (Ai C EU Z C)<|Ah (A6 h<|AH C<|BU C C GR DA C C C C C λb2 w7 hb4 F hs2 hz4=>?_);have d:=d.ext F;have Y:=Y.ext F;have Z:=Z.ext F;have J:=J.trans F;have h:=h.ext F
   rotate_left
   refine Bn C ?_ ?_;refine BU C C GR DA C C C C C λb2 w7 hb4 F hs2 hz4=>?_;have d:=d.ext F;have Y:=Y.ext F;have Z:=Z.ext F;have J:=J.trans F;have h:=h.ext F;refine Ah (A6 h<|AH C<|Ac C (Ai C EU Z C) ?_)
   rotate_left
   exact BE
   all_goals
    refine Ah (A6 h<|AH C<|Cm C aT C C C C d hb4 C C oM oM λta2 tc2 w8 W hG2=>?_);have hlow2:∀x,rb ta2=some x→w0.heap.size≤x∧x≠b:=GB hG2 O oM;have Z:=Z.grow hG2 (λe=>by have:=O _ e.symm;have:=hlowl _ e.symm;omega);have J:=J.grow hG2 (λx hx=>(O x hx).1);have h:=h.grow hG2 (by simp only[List.mem_cons,List.not_mem_nil,or_false];intro c hc e;have:=O _ e.symm;have:=hlowl _ e.symm;omega);have sz4:=hG2.size;refine Ah (A6 h<|A8 C C (λ_ L=>Cj C)<|A8 C C (λ_ L=>CB C Gh)<|AH C<|AA C C C EU C Z C C λw9 hb5 hC2=>?_);have W:=BQ.chg W hC2 (λe=>by have:=hlow2 _ e;omega);have J:=J.chg hC2 oM;have h:=h.chg hC2 nM;have sz5:=hC2.size;exact Ah (A6 h<|D1<|IA<|MA (Gz C)<|⟨[⟨1,p.1,p.2,0,[]⟩],i+1,adv c p,ta2,tc2,Tn hc h1 h2 h3 h4,C,by rw[List.length_append];exact hb5,by rw[List.length_append,Gs];exact W,hlow2,J,oM,by first|omega|(have:=Ca hc;omega),hp1⟩)
  refine Az [.bk _] 8 (λ_=>sP 104 C (λh5=>?_) (λh5=>?_));refine F2 C C ?_;have W:=Y;refine DZ mixed (A4 w5 [b1]) (rd [0,1,2,3,5,6] (.br 4 (.br 7 (.br 8 (.br 9 (.rd 10 (.rd 11 (.br 12 .fin .fin))) .fin) .fin) .fin) (.br 7 (.br 4 (.br 8 (.br 9 (.rd 10 (.rd 11 (.br 12 .fin .fin))) .fin) .fin) (.br 8 (.br 4 (.br 9 (.rd 10 (.rd 11 (.br 12 .fin .fin))) .fin) .fin) .fin)) .fin))) kR kR kR λw6 Q hz3=>?_;have h:A4 w5 [b1] w6:=A4.cons W Q (A4.nil _ _);refine⟨h,?_⟩;have d:=d.ext Q;have Y:=Y.ext Q;have Z:=Z.ext Q;have J:=J.trans Q;refine A8 C C (λ_ L=>Aw C)<|A8 C C (λ_ L=>Aw C)<|A8 C C (λ_ L=>Cj C)<|A8 C C (λ_ L=>CB C Gh)<|A8 C C (λ_ L=>Aw C)<|A8 C C (λ_ L=>C4 C Iw (W.keep L (.head _)) C) ?_
  ·
   refine Bn C ?_ ?_;refine Ac C (Ai C EU Z C)<|Ah (A6 h<|AH C<|Cc C (As pE C C) (RM _ b src (i+1) (adv c p) (.slice ta U.length tc) Z p (by have:=Ca hc;omega) oM hp1) ?_ (λcc wp hc1=>aI C (let ⟨e,he,hcc,hE⟩:=hc1;⟨e,by rw[Jr hc h1 h2 h3 h4 h5,he],hcc,hE.ext J hb0⟩)));rintro _ w7 ⟨tx,i1,p1,hstr,rfl,hb4,F,hi1,hi2,hp1⟩;have d:=BQ.exb d F (λe=>by have:=O _ e;omega);have Y:=Y.exb F oM;have J:=F.ext J hb0;have sz4:=F.size;have h:=h.exb F nM;refine Ah (A6 h<|AH C<|BU C C GR DA C C C C C λb2 w8 hb5 G hs2 hz4=>?_);have d:=d.ext G;have Y:=Y.ext G;have hb4:=hb4.ext G;have J:=J.trans G;have h:=h.ext G
   rotate_left
   refine Bn C ?_ ?_;refine Cc C (As pE C C) (RM _ b src (i+1) (adv c p) (.slice ta U.length tc) Z p (by have:=Ca hc;omega) oM hp1) ?_ (λcc wp hc1=>aI C (let ⟨e,he,hcc,hE⟩:=hc1;⟨e,by rw[Jr hc h1 h2 h3 h4 h5,he],hcc,hE.ext J hb0⟩));rintro _ w7 ⟨tx,i1,p1,hstr,rfl,hb4,F,hi1,hi2,hp1⟩;have d:=BQ.exb d F (λe=>by have:=O _ e;omega);have Y:=Y.exb F oM;have J:=F.ext J hb0;have sz4:=F.size;have h:=h.exb F nM;refine Ah (A6 h<|Bn C ?_ ?_);refine Ac C (Ai C EU hb4 C)<|Ah (A6 h<|AH C<|BU C C GR DA C C C C C λb2 w8 hb5 G hs2 hz4=>?_);have d:=d.ext G;have Y:=Y.ext G;have hb4:=hb4.ext G;have J:=J.trans G;have h:=h.ext G
   rotate_left
   refine Bn C ?_ ?_;refine BU C C GR DA C C C C C λb2 w8 hb5 G hs2 hz4=>?_;have d:=d.ext G;have Y:=Y.ext G;have hb4:=hb4.ext G;have J:=J.trans G;have h:=h.ext G;refine Ah (A6 h<|AH C<|Ac C (Ai C EU hb4 C) ?_)
   rotate_left
   exact BE;exact BE
   all_goals
    refine Ah (A6 h<|AH C<|Cm C aT C C C C d hb5 C C oM oM λta2 tc2 w9 W hG2=>?_);have hlow2:∀x,rb ta2=some x→w0.heap.size≤x∧x≠b:=GB hG2 O oM;have hb4:=hb4.grow hG2 (λe=>by have:=O _ e.symm;have:=hlowl _ e.symm;omega);have J:=J.grow hG2 (λx hx=>(O x hx).1);have h:=h.grow hG2 (by simp only[List.mem_cons,List.not_mem_nil,or_false];intro c hc e;have:=O _ e.symm;have:=hlowl _ e.symm;omega);have sz5:=hG2.size;refine Ah (A6 h<|A8 C C (λ_ L=>Cj C)<|A8 C C (λ_ L=>CB C Gh)<|AH C<|AA C C C EU C hb4 C C λw10 hb6 hC2=>?_);have W:=BQ.chg W hC2 (λe=>by have:=hlow2 _ e;omega);have J:=J.chg hC2 oM;have h:=h.chg hC2 nM;have sz6:=hC2.size;exact Ah (A6 h<|D1<|IA<|MA (Gz C)<|⟨[⟨4,p.1,p.2,0,tx⟩],i1,p1,ta2,tc2,by rw[Jr hc h1 h2 h3 h4 h5,hstr],C,by rw[List.length_append];exact hb6,by rw[List.length_append,Gs];exact W,hlow2,J,oM,by first|omega|(have:=Ca hc;omega),hp1⟩)
  refine J4 C C<|Rx (E3 0 (pB b) 2 (pB b1) 3 (iV (i:Int))) (λw'=>∃(j:Nat)(q:Ps),i<j∧j≤src.length∧Pk j q∧Co (adv c p) (src.drop (i+1))=(Cu src (i+1) j,src.drop j,q)∧AS w' b [S src,iV ((j:Nat):Int),iV q.1,iV q.2,(.slice ta U.length tc)] 116∧AS w' b1 [iV p.1,iV p.2] 41 ∧ BQ w' 117 5 ta tc U.length (EK U)∧AW w0 w') ?_ ?_;refine DU ?_;refine DM (λk σ ds w'=>∃(j:Nat)(q:Ps),k=src.length-j∧ds=[]∧σ=(E3 0 (pB b) 2 (pB b1) 3 (iV (i:Int)))∧i<j∧j≤src.length∧Pk j q∧Co (adv c p) (src.drop (i+1))=(Cu src (i+1) j++(Co q (src.drop j)).1,(Co q (src.drop j)).2)∧AS w' b [S src,iV ((j:Nat):Int),iV q.1,iV q.2,(.slice ta U.length tc)] 116∧AS w' b1 [iV p.1,iV p.2] 41 ∧ BQ w' 117 5 ta tc U.length (EK U)∧AW w0 w') (src.length-(i+1)) (E3 0 (pB b) 2 (pB b1) 3 (iV (i:Int))) lE ⟨i+1,adv c p,C,C,C,oM,by have:=Ca hc;omega,hp1,by rw[NZ];rfl,Z,Y,d,J⟩ ?_;rintro _ _ _ wl ⟨j,q,rfl,rfl,rfl,hij,hjl,hq,hm,D,K,d,J⟩;have szl:=J.size;have lt2:=K.lt;have lts:=D.lt;refine Az [] 2 (λ_=>?_);have W:=D;have hr3:=K;refine DN mixed (A4 wl [b,b1]) [(true,0),(false,1),(true,2),(true,3),(true,4),(true,5),(true,6),(true,7),(true,8),(true,9),(true,10),(true,11),(false,12),(true,13),(true,14)] kR kR C C λw6 Q hz3=>?_;have h:A4 wl [b,b1] w6:=A4.cons W Q (A4.cons hr3 Q (A4.nil _ _));refine⟨h,?_⟩;have D:=D.ext Q;have K:=K.ext Q;have d:=d.ext Q;have J:=J.trans Q;refine Ax C (λ_ L=>Aw C)<|Eh<|A0 C (As S4 C C) (H5 _ b src j q (.slice ta U.length tc) D) ?_;rintro _ w7 ⟨rfl,F⟩;have D:=D.ext F;have K:=K.ext F;have d:=d.ext F;have J:=J.trans F;have h:=h.ext F;have sz4:=F.size;refine Ah (Gx h<|Ax C (λ_ L=>Aw C)<|Pu 17 C (λh6=>?_) (λh6=>?_));have hjlt:j<src.length:=by have:=dT h6;omega
  obtain⟨c1,hc1⟩:=G7 hjlt;refine C0 C C C h6 (λ_ L=>Aw C)<|C0 C C C h6 (λ_ L=>Cj C)<|C0 C C C h6 (λ_ L=>CB C Ha)<|C0 C C C h6 (λ_ L=>Ai C Yu (W.keep L (.head _)) C)<|C0 C C C h6 (λ_ L=>Aw C)<|C0 C C C h6 (λ_ L=>Cj C)<|C0 C C C h6 (λ_ L=>CB C ER)<|C0 C C C h6 (λ_ L=>Ai C Ux (W.keep L (.head _)) C)<|C0 C C C h6 (λ_ L=>C1 (c:=c1) C C J7 oM (by rw[Int.toNat_natCast];exact hc1))<|Eh ?_;refine Bw C C h6<|A0 C (As W6 C C) (EC _ NJ _) ?_;rintro _ w8 ⟨rfl,G⟩;have D:=D.ext G;have K:=K.ext G;have d:=d.ext G;have J:=J.trans G;have h:=h.ext G;have sz5:=G.size;refine Ah (Gx h<|C0 C C C h6 (λ_ L=>UP C C)<|Ax C (λ_ L=>O2 C h6 C)<|DY<|Dr<|sP 29 C (λh7=>?_) (λh7=>?_));refine Az [.sq _] 6 (λ_=>A0 C (As Ot C C) (Ft _ b src j q (.slice ta U.length tc) D c1 hc1 oM hq) ?_);rintro _ w9 ⟨rfl,hb4,hE8⟩;have K:=K.exb hE8 oM;have d:=BQ.exb d hE8 (λe=>by have:=O _ e;omega);have J:=hE8.ext J hb0;have sz6:=hE8.size;have hp2:=Pk.adv (c:=c1) hq;refine Ay [.bk _] 2 (λ_=>GS (src.length-(j+1)) (E3 0 (pB b) 2 (pB b1) 3 (iV (i:Int))) (by have:=Ca hc1;omega) lE ⟨j+1,adv c1 q,C,C,C,oM,by have:=Ca hc1;omega,hp2,by rw[hm,Ke hc1 h7,Od (by omega) hc1,List.append_assoc];rfl,hb4,K,d,J⟩);exact Az [.sq _] 3 (λ_=>Ox<|PE<|PO lE ⟨j,q,hij,hjl,hq,by rw[hm,Kr (p:=q) (src:=src) (j:=j) (.inr ⟨c1,hc1,h7⟩),List.append_nil],D,K,d,J⟩);refine Cz C C C h6<|Cz C C C h6<|Cz C C C h6<|Cz C C C h6<|Cz C C C h6<|Cz C C C h6<|Cz C C C h6<|Cz C C C h6<|Cz C C C h6<|Eh ?_;exact kD C C C h6<|Ah (Gx h<|Cz C C C h6<|Ax C (λ_ L=>Nr C h6 C)<|DY<|El [.sq _,.sq _] 4 (λ_=>Ox<|PE<|PO lE ⟨j,q,hij,hjl,hq,by rw[hm,Kr (p:=q) (src:=src) (j:=j) (.inl (by have:=dF h6;omega)),List.append_nil],D,K,d,J⟩));rintro wl ⟨j,q,hij,hjl,hq,hm,D,K,d,J⟩;have szl:=J.size;have lt2:=K.lt;have lts:=D.lt;have W:=K
  refine DZ mixed (A4 wl [b1]) (rd [0,1,2,3,5,6,7,9,10,11,12,15] (.br 4 (.br 8 (.br 13 (.rd 14 (.br 16 (.br 17 (.br 18 (.rd 19 (.rd 20 (.br 21 .fin .fin))) .fin) .fin) .fin)) .fin) (.br 13 (.br 8 (.rd 14 (.br 16 (.br 17 (.br 18 (.rd 19 (.rd 20 (.br 21 .fin .fin))) .fin) .fin) .fin)) .fin) .fin)) (.br 8 (.br 4 (.br 13 (.rd 14 (.br 16 (.br 17 (.br 18 (.rd 19 (.rd 20 (.br 21 .fin .fin))) .fin) .fin) .fin)) .fin) (.br 13 (.rd 14 (.br 4 (.br 16 (.br 17 (.br 18 (.rd 19 (.rd 20 (.br 21 .fin .fin))) .fin) .fin) .fin) (.br 16 (.br 4 (.br 17 (.br 18 (.rd 19 (.rd 20 (.br 21 .fin .fin))) .fin) .fin) (.br 17 (.br 4 (.br 18 (.rd 19 (.rd 20 (.br 21 .fin .fin))) .fin) .fin) .fin)) .fin))) .fin)) (.br 13 (.br 4 (.br 8 (.rd 14 (.br 16 (.br 17 (.br 18 (.rd 19 (.rd 20 (.br 21 .fin .fin))) .fin) .fin) .fin)) .fin) (.br 8 (.rd 14 (.br 4 (.br 16 (.br 17 (.br 18 (.rd 19 (.rd 20 (.br 21 .fin .fin))) .fin) .fin) .fin) (.br 16 (.br 4 (.br 17 (.br 18 (.rd 19 (.rd 20 (.br 21 .fin .fin))) .fin) .fin) (.br 17 (.br 4 (.br 18 (.rd 19 (.rd 20 (.br 21 .fin .fin))) .fin) .fin) .fin)) .fin))) .fin)) .fin)))) kR kR kR λw6 Q hz3=>?_;have h:A4 wl [b1] w6:=A4.cons W Q (A4.nil _ _);refine⟨h,?_⟩;have D:=D.ext Q;have K:=K.ext Q;have d:=d.ext Q;have J:=J.trans Q;refine A8 C C (λ_ L=>Aw C)<|A8 C C (λ_ L=>Aw C)<|A8 C C (λ_ L=>Cj C)<|A8 C C (λ_ L=>CB C Gh)<|A8 C C (λ_ L=>Aw C)<|A8 C C (λ_ L=>Cj C)<|A8 C C (λ_ L=>CB C Ha)<|A8 C C (λ_ L=>Aw C)<|A8 C C (λ_ L=>Aw C)<|A8 C C (λ_ L=>Cj C) ?_;refine A8 C C (λ_ L=>CB C ER)<|A8 C C (λ_ L=>C4 C Iw (W.keep L (.head _)) C)<|Bn C ?_ ?_;refine Ac C (Ai C EU D C)<|Ah (A6 h ?_)
  focus
   refine Bn C ?_ ?_;refine Ac C (Ai C Yu D C)<|Ah (A6 h<|AH C<|Ac C (Ai C Ux D C) ?_)
   rotate_left
   refine Bn C ?_ ?_;refine Ac C (Ai C Ux D C)<|Ah (A6 h<|AH C<|Ac C (Ai C Yu D C) ?_)
   rotate_left
   exact BE
   all_goals
    refine Ah (A6 h<|A8 C C (λ_ L=>Mj C C C J7 ⟨oM,oM,oM⟩)<|AH C<|Cc C (As Oi C C) (Fl hPF _ (hG.ext J) (Cu src i j) (by have:=DX src i j;omega) (by rw[AY hij hc];simp) p) ?_ (λcc wp hc1=>aI C (let ⟨he,hcc,hE⟩:=hc1;⟨p,by rw[B9 hc h1 h2 h3 h4 h5,hm];simp only[];rw[← AY hij hc,he],hcc,J.trans hE⟩)));rintro _ w7 ⟨wk,wn,wt,hw,rfl,F⟩;have D:=D.ext F;have K:=K.ext F;have d:=d.ext F;have J:=J.trans F;have h:=h.ext F;have sz4:=F.size;have hst2:Dw (src.length+1) p (src.drop i)=.ok ([⟨wk,p.1,p.2,wn,wt⟩],src.drop j,q):=by rw[B9 hc h1 h2 h3 h4 h5,hm];simp only[];rw[← AY hij hc,hw]
    refine Ah (A6 h<|AH C<|BU C C GR DA C C C C C λb2 w8 hb4 G hs2 hz4=>?_);have D:=D.ext G;have K:=K.ext G;have d:=d.ext G;have J:=J.trans G;have h:=h.ext G
  rotate_left 2
  refine Bn C ?_ ?_;refine Ac C (Ai C Yu D C)<|Ah (A6 h<|Bn C ?_ ?_);refine Ac C (Ai C EU D C)<|Ah (A6 h<|AH C<|Ac C (Ai C Ux D C)<|Ah (A6 h<|A8 C C (λ_ L=>Mj C C C J7 ⟨oM,oM,oM⟩)<|AH C<|Cc C (As Oi C C) (Fl hPF _ (hG.ext J) (Cu src i j) (by have:=DX src i j;omega) (by rw[AY hij hc];simp) p) ?_ (λcc wp hc1=>aI C (let ⟨he,hcc,hE⟩:=hc1;⟨p,by rw[B9 hc h1 h2 h3 h4 h5,hm];simp only[];rw[← AY hij hc,he],hcc,J.trans hE⟩))));rintro _ w7 ⟨wk,wn,wt,hw,rfl,F⟩;have D:=D.ext F;have K:=K.ext F;have d:=d.ext F;have J:=J.trans F;have h:=h.ext F;have sz4:=F.size;have hst2:Dw (src.length+1) p (src.drop i)=.ok ([⟨wk,p.1,p.2,wn,wt⟩],src.drop j,q):=by rw[B9 hc h1 h2 h3 h4 h5,hm];simp only[];rw[← AY hij hc,hw]
  refine Ah (A6 h<|AH C<|BU C C GR DA C C C C C λb2 w8 hb4 G hs2 hz4=>?_);have D:=D.ext G;have K:=K.ext G;have d:=d.ext G;have J:=J.trans G;have h:=h.ext G
  rotate_left
  refine Bn C ?_ ?_;refine Ac C (Ai C Ux D C)<|Ah (A6 h<|A8 C C (λ_ L=>Mj C C C J7 ⟨oM,oM,oM⟩)<|Bn C ?_ ?_);refine Ac C (Ai C EU D C)<|Ah (A6 h<|AH C<|Cc C (As Oi C C) (Fl hPF _ (hG.ext J) (Cu src i j) (by have:=DX src i j;omega) (by rw[AY hij hc];simp) p) ?_ (λcc wp hc1=>aI C (let ⟨he,hcc,hE⟩:=hc1;⟨p,by rw[B9 hc h1 h2 h3 h4 h5,hm];simp only[];rw[← AY hij hc,he],hcc,J.trans hE⟩)));rintro _ w7 ⟨wk,wn,wt,hw,rfl,F⟩;have D:=D.ext F;have K:=K.ext F;have d:=d.ext F;have J:=J.trans F;have h:=h.ext F;have sz4:=F.size;have hst2:Dw (src.length+1) p (src.drop i)=.ok ([⟨wk,p.1,p.2,wn,wt⟩],src.drop j,q):=by rw[B9 hc h1 h2 h3 h4 h5,hm];simp only[];rw[← AY hij hc,hw]
  refine Ah (A6 h<|AH C<|BU C C GR DA C C C C C λb2 w8 hb4 G hs2 hz4=>?_);have D:=D.ext G;have K:=K.ext G;have d:=d.ext G;have J:=J.trans G;have h:=h.ext G
  rotate_left
  refine Bn C ?_ ?_;refine Cc C (As Oi C C) (Fl hPF _ (hG.ext J) (Cu src i j) (by have:=DX src i j;omega) (by rw[AY hij hc];simp) p) ?_ (λcc wp hc1=>aI C (let ⟨he,hcc,hE⟩:=hc1;⟨p,by rw[B9 hc h1 h2 h3 h4 h5,hm];simp only[];rw[← AY hij hc,he],hcc,J.trans hE⟩));rintro _ w7 ⟨wk,wn,wt,hw,rfl,F⟩;have D:=D.ext F;have K:=K.ext F;have d:=d.ext F;have J:=J.trans F;have h:=h.ext F;have sz4:=F.size;have hst2:Dw (src.length+1) p (src.drop i)=.ok ([⟨wk,p.1,p.2,wn,wt⟩],src.drop j,q):=by rw[B9 hc h1 h2 h3 h4 h5,hm];simp only[];rw[← AY hij hc,hw]
  refine Ah (A6 h<|Bn C ?_ ?_);refine Ac C (Ai C EU D C)<|Ah (A6 h<|AH C<|BU C C GR DA C C C C C λb2 w8 hb4 G hs2 hz4=>?_);have D:=D.ext G;have K:=K.ext G;have d:=d.ext G;have J:=J.trans G;have h:=h.ext G
  rotate_left
  refine Bn C ?_ ?_;refine BU C C GR DA C C C C C λb2 w8 hb4 G hs2 hz4=>?_;have D:=D.ext G;have K:=K.ext G;have d:=d.ext G;have J:=J.trans G;have h:=h.ext G;refine Ah (A6 h<|AH C<|Ac C (Ai C EU D C) ?_)
  rotate_left
  exact BE;exact BE;exact BE;refine Bn C ?_ ?_;refine Ac C (Ai C Ux D C)<|Ah (A6 h<|Bn C ?_ ?_);refine Ac C (Ai C EU D C)<|Ah (A6 h<|AH C<|Ac C (Ai C Yu D C)<|Ah (A6 h<|A8 C C (λ_ L=>Mj C C C J7 ⟨oM,oM,oM⟩)<|AH C<|Cc C (As Oi C C) (Fl hPF _ (hG.ext J) (Cu src i j) (by have:=DX src i j;omega) (by rw[AY hij hc];simp) p) ?_ (λcc wp hc1=>aI C (let ⟨he,hcc,hE⟩:=hc1;⟨p,by rw[B9 hc h1 h2 h3 h4 h5,hm];simp only[];rw[← AY hij hc,he],hcc,J.trans hE⟩))));rintro _ w7 ⟨wk,wn,wt,hw,rfl,F⟩;have D:=D.ext F;have K:=K.ext F;have d:=d.ext F;have J:=J.trans F;have h:=h.ext F;have sz4:=F.size;have hst2:Dw (src.length+1) p (src.drop i)=.ok ([⟨wk,p.1,p.2,wn,wt⟩],src.drop j,q):=by rw[B9 hc h1 h2 h3 h4 h5,hm];simp only[];rw[← AY hij hc,hw]
  refine Ah (A6 h<|AH C<|BU C C GR DA C C C C C λb2 w8 hb4 G hs2 hz4=>?_);have D:=D.ext G;have K:=K.ext G;have d:=d.ext G;have J:=J.trans G;have h:=h.ext G
  rotate_left
  refine Bn C ?_ ?_;refine Ac C (Ai C Yu D C)<|Ah (A6 h<|A8 C C (λ_ L=>Mj C C C J7 ⟨oM,oM,oM⟩)<|Bn C ?_ ?_);refine Ac C (Ai C EU D C)<|Ah (A6 h<|AH C<|Cc C (As Oi C C) (Fl hPF _ (hG.ext J) (Cu src i j) (by have:=DX src i j;omega) (by rw[AY hij hc];simp) p) ?_ (λcc wp hc1=>aI C (let ⟨he,hcc,hE⟩:=hc1;⟨p,by rw[B9 hc h1 h2 h3 h4 h5,hm];simp only[];rw[← AY hij hc,he],hcc,J.trans hE⟩)));rintro _ w7 ⟨wk,wn,wt,hw,rfl,F⟩;have D:=D.ext F;have K:=K.ext F;have d:=d.ext F;have J:=J.trans F;have h:=h.ext F;have sz4:=F.size;have hst2:Dw (src.length+1) p (src.drop i)=.ok ([⟨wk,p.1,p.2,wn,wt⟩],src.drop j,q):=by rw[B9 hc h1 h2 h3 h4 h5,hm];simp only[];rw[← AY hij hc,hw]
  refine Ah (A6 h<|AH C<|BU C C GR DA C C C C C λb2 w8 hb4 G hs2 hz4=>?_);have D:=D.ext G;have K:=K.ext G;have d:=d.ext G;have J:=J.trans G;have h:=h.ext G
  rotate_left
  refine Bn C ?_ ?_;refine Cc C (As Oi C C) (Fl hPF _ (hG.ext J) (Cu src i j) (by have:=DX src i j;omega) (by rw[AY hij hc];simp) p) ?_ (λcc wp hc1=>aI C (let ⟨he,hcc,hE⟩:=hc1;⟨p,by rw[B9 hc h1 h2 h3 h4 h5,hm];simp only[];rw[← AY hij hc,he],hcc,J.trans hE⟩));rintro _ w7 ⟨wk,wn,wt,hw,rfl,F⟩;have D:=D.ext F;have K:=K.ext F;have d:=d.ext F;have J:=J.trans F;have h:=h.ext F;have sz4:=F.size;have hst2:Dw (src.length+1) p (src.drop i)=.ok ([⟨wk,p.1,p.2,wn,wt⟩],src.drop j,q):=by rw[B9 hc h1 h2 h3 h4 h5,hm];simp only[];rw[← AY hij hc,hw]
  refine Ah (A6 h<|Bn C ?_ ?_);refine Ac C (Ai C EU D C)<|Ah (A6 h<|AH C<|BU C C GR DA C C C C C λb2 w8 hb4 G hs2 hz4=>?_);have D:=D.ext G;have K:=K.ext G;have d:=d.ext G;have J:=J.trans G;have h:=h.ext G
  rotate_left
  refine Bn C ?_ ?_;refine BU C C GR DA C C C C C λb2 w8 hb4 G hs2 hz4=>?_;have D:=D.ext G;have K:=K.ext G;have d:=d.ext G;have J:=J.trans G;have h:=h.ext G;refine Ah (A6 h<|AH C<|Ac C (Ai C EU D C) ?_)
  rotate_left
  exact BE;exact BE;exact BE;exact BE
  all_goals
   refine Ah (A6 h<|AH C<|Cm C aT C C C C d hb4 C C oM oM λta2 tc2 w9 W hG2=>?_);have hlow2:∀x,rb ta2=some x→w0.heap.size≤x∧x≠b:=GB hG2 O oM;have D:=D.grow hG2 (λe=>by have:=O _ e.symm;have:=hlowl _ e.symm;omega);have K:=K.grow hG2 (λe=>by have:=O _ e.symm;have:=hlowl _ e.symm;omega);have J:=J.grow hG2 (λx hx=>(O x hx).1);have h:=h.grow hG2 (by simp only[List.mem_cons,List.not_mem_nil,or_false];intro c hc e;have:=O _ e.symm;have:=hlowl _ e.symm;omega);have sz5:=hG2.size;refine Ah (A6 h<|A8 C C (λ_ L=>Cj C)<|A8 C C (λ_ L=>CB C Gh)<|AH C<|AA C C C EU C D C C λw10 hb5 hC2=>?_);have K:=K.chg hC2 oM;have W:=BQ.chg W hC2 (λe=>by have:=hlow2 _ e;omega);have J:=J.chg hC2 oM;have h:=h.chg hC2 nM;have sz6:=hC2.size;exact Ah (A6 h<|D1<|IA<|MA (Gz C)<|⟨[⟨wk,p.1,p.2,wn,wt⟩],j,q,ta2,tc2,hst2,C,by rw[List.length_append];exact hb5,by rw[List.length_append,Gs];exact W,hlow2,J,oM,by first|omega|(have:=Ca hc;omega),hq⟩)

theorem TH(w:wO)(c2 c3 c4:Nat) :
  CallsD prog 38 [pB c2,pB c3,pB c4].toArray .returning w λr m w'=>∃x,r=.returned x∧m=.returning∧(AW w w'):=by
 have d:=AW.refl w;refine Ds (R:=λw'=>AW w w') func38 C C C C NC<|DU<|BF<|C6<|Ac C (Rs pU C)<|Ah<|Dr<|F2 C C<|C6<|Ac C (CV C) ?_;exact Ah<|IA<|MA (Gz C)<|d
theorem UN(w0 w:wO)(hX0:AW w0 w)(c2 c3 c4:Nat)(v2 x3 y3 v4:Value)(G:AS w c2 [v2] 70)(h:AS w c3 [x3,y3] 41)(d:AS w c4 [v4] 42)(g2:w0.heap.size≤c2)(g3:w0.heap.size≤c3)(g4:w0.heap.size≤c4)(n23:c2≠c3)(n24:c2≠c4)(n34:c3≠c4)(e:Int×Int) :
  CallsD prog 38 [pB c2,pB c3,pB c4].toArray (.panicking (RG 113 e)) w λr m w'=>∃x,r=.returned x∧m=.panicking [{v:=.iface 113 (.agg #[iV e.1,iV e.2]),recovered:=true}]∧(AW w0 w'∧AS w' c2 [.slice none 0 0] 70∧AS w' c3 [iV e.1,iV e.2] 41∧AS w' c4 [iV 10] 42):=by
 have l2:=G.lt;have l3:=h.lt;have l4:=d.lt;have J:=hX0;have szx:=J.size;refine Ds (R:=λw'=>AW w0 w'∧AS w' c2 [.slice none 0 0] 70∧AS w' c3 [iV e.1,iV e.2] 41∧AS w' c4 [iV 10] 42) func38 C C C C RD<|DU<|BF<|C6<|Ac C (Q2 pU C)<|Ah<|Dr<|J4 C C<|BF<|C6 ?_;refine Ac C (UK C rD)<|Ac C (U5 C C)<|Ac C (U5 C C)<|Ah<|Dr<|F2 C C<|BF<|C6<|CF C pJ λb1 w1 hb1 Y hs1 hz1=>?_;have G:=G.ext Y;have h:=h.ext Y;have d:=d.ext Y;have J:=J.trans Y;refine AA C C C ti113 C hb1 C C λw2 F U=>?_;have G:=G.chg U oM;have h:=h.chg U oM;have d:=d.chg U oM;have J:=J.chg U oM;have sz1:=U.size;refine Ah<|Dr ?_;have hr1:=F;refine DN mixed (A4 w2 [b1]) [(true,0),(true,1),(false,2),(false,3),(false,4)] kR kR C C λw3 K hz2=>?_;have D:A4 w2 [b1] w3:=A4.cons hr1 K (A4.nil _ _);refine⟨D,?_⟩;have G:=G.ext K;have h:=h.ext K;have d:=d.ext K;have F:=F.ext K;have J:=J.trans K;refine Ax C (λ_ hS=>CB C gX)<|Ax C (λ_ hS=>C4 C Iw (hr1.keep hS (.head _)) C)<|Eh<|AA C C C EU C G C C λw4 W L=>?_;have h:=h.chg L oM;have d:=d.chg L oM;have F:=F.chg L oM;have J:=J.chg L oM;have D:=D.chg L nM;have sz2:=L.size;refine Ah (Gx D<|Eh<|AA C C C Iw C h C C λw5 Z O=>?_);have W:=W.chg O oM;have d:=d.chg O oM;have F:=F.chg O oM;have J:=J.chg O oM;have D:=D.chg O nM;have sz3:=O.size;refine Ah (Gx D<|Eh<|AA C C C XW C d C C λw6 hb5 Q=>?_);have W:=W.chg Q oM;have Z:=Z.chg Q oM;have F:=F.chg Q oM;have J:=J.chg Q oM;have D:=D.chg Q nM;have sz4:=Q.size;exact Ah (Gx D<|DY<|IA<|MA (Gz C)<|⟨J,W,Z,hb5⟩)
def ScanR(w w':wO)(v:Value):Except (Int×Int×Int) (List Aq)→Prop
 |.error e=>v=.tuple #[.slice none 0 0,.agg #[iV e.1,iV e.2.1],iV e.2.2]∧AW w w'
 |.ok d=>∃h D,v=.tuple #[.slice h d.length D,.agg #[iV 0,iV 0],iV 0]∧(BQ w' 117 5 h D d.length (EK d)∧∀b,rb h=some b→w.heap.size≤b)∧AW w w'
theorem PH(hPF:PFS)(w:wO)(hG:Gl w)(src:lU) :
  AX prog 22 #[S src] w λv w'=>ScanR w w' v (EG src):=by
 have G:=AW.refl w;refine xU (l:=[S src]) func22 C C C<|BF<|C6<|CF C zr70 λb1 w1 W hE1 hs1 hz1=>?_;have G:=G.trans hE1;refine CF C Vo λb2 w2 Y hE2 hs2 hz2=>?_;have W:=W.ext hE2;have G:=G.trans hE2;refine CF C zr42 λb3 w3 Z hE3 hs3 hz3=>?_;have W:=W.ext hE3;have Y:=Y.ext hE3;have G:=G.trans hE3;refine Ah<|Dr<|BF<|BF<|C6<|Ac C (Aw C)<|Ac C (MS C J7)<|Ac C (YY C C)<|Ah<|Dr ?_;refine Nq C (λh1=>?_) (λh1=>?_);refine BF<|C6<|Ac C (D5 C xR Vo C)<|AA C C C EU C W C C λw4 hb4 J=>?_;have Y:=Y.chg J oM;have Z:=Z.chg J oM;have G:=G.chg J oM;have sz1:=J.size;refine AA C C C Iw C Y C C λw5 Q K=>?_;have hb4:=hb4.chg K oM;have Z:=Z.chg K oM;have G:=G.chg K oM;have sz2:=K.size;refine AA C C C XW C Z C C λw6 hb6 L=>?_;have hb4:=hb4.chg L oM;have Q:=Q.chg L oM;have G:=G.chg L oM;have sz3:=L.size;exact Ah<|Dr<|J6<|VQ<|λtmps hσ=>DR hσ (Dy C (Dl C EU hb4 C) (Ab C Iw Q C) (Dl C XW hb6 C)) ⟨_,C,by rw[EG,if_pos h1];exact⟨C,G⟩⟩;refine HD<|Dr<|BF<|C6<|Ac C (Ve C)<|PZ C ?_;have hlen:src.length≤65536:=by have:=dF h1;omega
 refine Ah<|Dr<|BF ?_;have hb1B:=W;have hb2B:=Y;have hb3B:=Z;have hX0:=G;refine C6<|Ac C (Aw C)<|Ac C (D5 C xR Vo C)<|Ac C (D5 C zA Aa4 C)<|DV C C C λb4 w4 hb4 hE4 hs4 hz4=>?_;have W:=W.ext hE4;have Y:=Y.ext hE4;have Z:=Z.ext hE4;have G:=G.trans hE4;refine Ac C (CV C)<|Ah<|Dr<|BF<|DU ?_;refine DM (λk σ ds w'=>∃(j n:Nat)(q:Ps)(h:List Aq)(ta:oA)(tc:Nat),k=src.length-j∧ds=[{target:=.fn (.func 38) ([pB b1,pB b2,pB b3]:lV).toArray,args:=#[]}]∧σ=(E4 2 (pB b1) 3 (pB b2) 4 (pB b3) 5 (pB b4))∧j≤src.length∧src.length≤j+n∧Pk j q∧h.length≤j∧FU (src.length+1) src.length (1,1) src=R2 h (FU (src.length+1) n q (src.drop j))∧AS w' b4 [S src,iV ((j:Nat):Int),iV q.1,iV q.2,(.slice ta h.length tc)] 116∧BQ w' 117 5 ta tc h.length (EK h)∧(∀x,rb ta=some x→w3.heap.size≤x∧x≠b4)∧AW w3 w') src.length (E4 2 (pB b1) 3 (pB b2) 4 (pB b3) 5 (pB b4)) lE ⟨0,src.length,(1,1),[],none,0,C,C,C,oM,oM,⟨dC,dC,dC,dC⟩,by simp,(RV _).symm,hb4,Fx _ _ _,(λx hx=>by cases hx),hE4⟩ ?_;rintro _ _ _ wl ⟨j,n,q,h,ta,tc,rfl,rfl,rfl,hjl,hn,hq,htl,hm,d,D,hlow,U⟩;have szl:=U.size;have lts:=d.lt;have G:=hX0.trans U;have hb1Bl:=hb1B.ext U;have O:=hb2B.ext U;have F:=hb3B.ext U;refine BF<|BF<|C6<|Ac C (Aw C)<|A0 C (As S4 C C) (H5 _ b4 src j q (.slice ta h.length tc) d) ?_;rintro _ w5 ⟨rfl,hE5⟩;have hb1Bl:=hb1Bl.ext hE5;have O:=O.ext hE5;have F:=F.ext hE5;have d:=d.ext hE5;have D:=D.ext hE5;have G:=G.trans hE5;have U:=U.trans hE5;have sz1:=hE5.size;refine Ah<|Dr<|Nq C (λh2=>?_) (λh2=>?_);refine HD<|Dr<|DU<|C6<|Ac C (Aw C) ?_;obtain⟨c,hc⟩:=G7 (show j<src.length by have:=dT h2;omega);obtain⟨n,rfl⟩:∃n1,n=n1+1:=⟨n-1,by have:=Ca hc;omega⟩;refine Cc C (As ent40 C C) (Xm hPF w3 _ (hG.ext hX0) U b4 oM src j q h ta tc d D hlow c hc hq hlen htl) ?_ (λcc wp hcc tmps hσ=>by obtain⟨e,he,rfl,hE⟩:=hcc;have sz:=hE.size;exact Ff (by simp) oZ (UN w wp (hX0.trans hE) b1 b2 b3 _ _ _ _ (hb1B.ext hE) (hb2B.ext hE) (hb3B.ext hE) oM oM oM oM oM oM e) (λwz hz=>by rw[Kj];obtain⟨h1,h2,h3,h4⟩:=hz;exact DR hσ (Dy C (Dl C EU h2 C) (Ab C Iw h3 C) (Dl C XW h4 C)) ⟨_,C,by rw[EG,if_neg (by rw[decide_eq_true_eq];omega),hm,Pp hc he,R2];exact⟨C,h1⟩⟩));rintro _ w6 ⟨ot,i1,p1,ta1,tc1,hst,rfl,hsc2,hrow2,hlow2,hX2,hi1,hi2,hp1⟩;have hot:(h++ot).length≤i1:=by have:=PM hst;rw[List.length_append];omega
 have hm2:=NG hc hst hm;refine Ah<|IA<|GS (src.length-i1) (E4 2 (pB b1) 3 (pB b2) 4 (pB b3) 5 (pB b4)) oM lE ⟨i1,n,p1,h++ot,ta1,tc1,C,C,C,hi2,oM,hp1,hot,hm2,hsc2,hrow2,hlow2,hX2⟩;refine KP<|WE<|Ox<|PE<|Dr<|BF<|C6<|Ac C (Aw C)<|Ac C (Cj C)<|Ac C (CB C Gh) ?_;refine Ac C (Ai C EU d C)<|Ac C (D5 C xR Vo C)<|AA C C C EU C hb1Bl C C λw6 Q J=>?_;have O:=O.chg J oM;have F:=F.chg J oM;have d:=d.chg J oM;have D:=BQ.chg D J (λe=>by have:=hlow _ e;omega);have G:=G.chg J oM;clear U;have sz2:=J.size;refine AA C C C Iw C O C C λw7 hb6 K=>?_;have Q:=Q.chg K oM;have F:=F.chg K oM;have d:=d.chg K oM;have D:=BQ.chg D K (λe=>by have:=hlow _ e;omega);have G:=G.chg K oM;have sz3:=K.size;refine AA C C C XW C F C C λw8 hb7 L=>?_;have Q:=Q.chg L oM;have hb6:=hb6.chg L oM;have d:=d.chg L oM;have D:=BQ.chg D L (λe=>by have:=hlow _ e;omega);have G:=G.chg L oM;have sz4:=L.size;refine Ah<|Dr<|J6 ?_;intro tmps hσ;refine Ff (by simp) oZ (TH _ b1 b2 b3) λwz hz=>?_;have hlx:EG src=.ok h:=by rw[EG,if_neg (by rw[decide_eq_true_eq];omega),hm,IF (by have:=dF h2;omega),Hz];simp[R2]
 refine DR hσ (Dy C (Dl C EU (Q.ext hz) C) (Ab C Iw (hb6.ext hz) C) (Dl C XW (hb7.ext hz) C)) ⟨_,C,?_⟩;rw[hlx];exact⟨ta,tc,C,⟨D.ext hz,λx hx=>by have:=hlow x hx;omega⟩,G.trans hz⟩
end Go.Proofs.YtnojaendcldjpaaGreatDoor
namespace Go.SP
open Go.SW Go.RowKit
def G1(l:lU):Prop:=∀c∈l,48≤c.toNat∧c.toNat≤57
def FV(b:lU):Bool→lU→Prop
 |false,rest=>∃a2,rest=a2++46::b∧G1 a2
 |true,rest=>G1 rest∧rest.length≤b.length
variable {dot:Bool}
theorem FV.cons{b r:lU}{c:UInt8}(h:FV b dot (c::r)):(c=46∧dot=false∧r=b)∨((48≤c.toNat∧c.toNat≤57)∧FV b dot r):=by
 cases dot with
 |false =>
   obtain⟨a2,D,G⟩:=h
   cases a2 with
   |nil=>left;simp at D;exact⟨D.1,C,D.2⟩
   |cons d a3 =>
     right
     simp at D;exact⟨D.1▸G d (.head _),a3,D.2,λx F=>G x (.tail _ F)⟩
 |true=>exact .inr ⟨h.1 c (.head _),λx F=>h.1 x (.tail _ F),by have:=h.2;simp only[List.length_cons] at this;omega⟩
theorem FV.nil{b:lU}(h:FV b dot []):dot=true:=by
 cases dot with
 |false=>obtain⟨a2,d,_⟩:=h;cases a2 <;> cases d
 |true=>rfl
def IU(l:lU):lU:=l.filter (λc=>c != 46)
theorem UA{l:lU}(h:G1 l):IU l=l:=by
 unfold IU;rw[List.filter_eq_self];intro c d;have:=h c d;have D:c≠46:=λe=>by subst e;revert this;decide
 simpa using D
theorem HO{c:UInt8}{l:lU}(h:48≤c.toNat∧c.toNat≤57):IU (c::l)=c::IU l:=by
 unfold IU;rw[List.filter_cons_of_pos];have d:c≠46:=λe=>by subst e;revert h;decide
 simpa using d
theorem OZ(l:lU):IU (46::l)=IU l:=by
 unfold IU;rw[List.filter_cons_of_neg];simp
theorem XZ{a b:lU}(d:G1 a)(h:G1 b):IU (a++46::b)=a++b:=by
 induction a with
 |nil=>rw[List.nil_append,OZ,UA h,List.nil_append]
 |cons c a D=>rw[List.cons_append,HO (d c (.head _)),D λx F=>d x (.tail _ F)];rfl
theorem Ml(n:Nat)(c:UInt8)(l:lU):CH n (c::l)=CH (n*10+(c.toNat-48)) l:=by conv=>lhs;unfold CH
theorem V8(n:Nat):CH n []=n:=by conv=>lhs;unfold CH
theorem PU:∀(l:lU)(n:Nat),n≤CH n l
 | [],n=>Nat.le_refl _
 |c::l,n=>by
   have:=PU l (n*10+(c.toNat-48));rw[Ml];omega
theorem WT:∀(l:lU)(n:Nat),G1 l→CH n l<(n+1)*10 ^ l.length
 | [],n,_=>by
   rw[V8,List.length_nil,Nat.pow_zero];omega
 |c::l,n,h=>by
   have F:=h c (.head _);have:=WT l (n*10+(c.toNat-48)) λx d=>h x (.tail _ d);rw[Ml,List.length_cons,Nat.pow_succ];refine Nat.lt_of_lt_of_le this ?_;have D:n*10+(c.toNat-48)+1≤(n+1)*10:=oM
   calc (n*10+(c.toNat-48)+1)*10 ^ l.length≤(n+1)*10*10 ^ l.length:=Nat.mul_le_mul_right _ D
     _=(n+1)*(10 ^ l.length*10):=by rw[Nat.mul_assoc,Nat.mul_comm 10]
theorem OM{l:lU}(h:G1 l)(d:l.length≤15):CH 0 l<1000000000000000:=by
 have D:=WT l 0 h;have F:10 ^ l.length≤10 ^ 15:=Nat.pow_le_pow_right dC d;have G:(10:Nat) ^ 15=1000000000000000:=dC;omega
theorem low46:∀n:Fin 58,46≤n.val→IntKind.u8.wrap (BitVec.ofInt 8 (n.val:Int) ||| BitVec.ofInt 8 32).toNat=(n.val:Int):=dC
theorem Ry{z:lU}(h:(Lib.cut z [46]).2.2=true):z=(Lib.cut z [46]).1++46::(Lib.cut z [46]).2.1:=by
 unfold Lib.cut at h ⊢
 split at h
 · rename_i F
   rw[if_pos F];rcases Lib.index_spec z [46] with ⟨D,_⟩|⟨i,D,L,d,_⟩
   · omega
   · simp only[D,Int.toNat_natCast,List.length_cons,List.length_nil]
     unfold Lib.occAt at d
     cases hd:z.drop i with
     |nil=>rw[hd] at d;cases d
     |cons c t =>
       rw[hd] at d
       have G:c=46:=by
         have J:(46:UInt8)=c:=by simpa[List.isPrefixOf] using d
         exact J.symm
       have K:z.drop (i+(0+1))=t:=by
         rw[← List.drop_drop,hd];rfl
       rw[K,← G,← hd,List.take_append_drop]
 · cases h
theorem QN{s a b:lU}(h:Fm s=some (a,b)):G1 a∧G1 b∧a≠[]∧b≠[]∧a.length+b.length≤15∧AG s=a++46::b:=by
 unfold Fm at h;simp only at h
 split at h
 · rename_i d
   simp only[Bool.and_eq_true,decide_eq_true_eq] at d;obtain⟨D,F,G,J⟩:=d;simp only[Option.some.injEq,Prod.mk.injEq] at h;obtain⟨rfl,rfl⟩:=h;have d1:=Gc F;have d2:=Gc G;exact⟨d1.2,d2.2,by simpa using d1.1,by simpa using d2.1,oM,Ry D⟩
 · cases h
end Go.SP
namespace Go.SP
variable {j:Nat}
theorem J9{s r:lU}{c:UInt8}(h:s.drop j=c::r):s.drop (j+1)=r:=by
 rw[← List.drop_drop,h];rfl
theorem QJ{s r:lU}{c:UInt8}(h:s.drop j=c::r):s[j]?=some c:=by
 have:(s.drop j)[0]?=some c:=by rw[h];rfl
 simpa using this
theorem Xf(o:Nat){s a b:lU}(D:G1 a)(d:a≠[])(h:s.drop o=a++46::b):∃c,s[((o:Int)+1).toNat]?=some c∧46≤c.toNat∧c.toNat≤57:=by
 have e:((o:Int)+1).toNat=o+1:=oM;rw[e];rcases a with _|⟨x,_|⟨y,a⟩⟩
 · exact absurd C d
 · exact⟨46,QJ (r:=b) (J9 (c:=x) (by simpa using h)),dC,dC⟩
 · have:=D y (.tail _ (.head _))
   exact⟨y,QJ (r:=a++46::b) (J9 (c:=x) (by simpa using h)),oM,oM⟩
end Go.SP
namespace Go.SP
open Ieee
variable {k:Nat}
theorem Pr{d e:Datum}(G:d.isNaN=false)(h:e.isNaN=false∧e.isInfinity=false∧e.isZero=false):∃r,d.quotient k e=some r:=by
 obtain⟨h,D,J⟩:=h
 cases d with
 |nan s t=>cases G
 |infinity s=>cases e with
   |nan s t=>cases h
   |infinity s=>cases D
   |number s m p=>exact⟨_,C⟩
 |number s m p=>cases e with
   |nan s t=>cases h
   |infinity s=>cases D
   |number s' F K =>
     cases F with
     |zero=>cases J
     |succ F=>exact⟨_,C⟩
theorem Yk{x:Nat}(h:x % 9223372036854775808≤9218868437227405312):(double.read x).isNaN=false:=by
 unfold Format.read;simp only[show double.signWeight=9223372036854775808 from by decide,show double.infRung=9218868437227405312 from by decide]
 split
 · rfl
 · split
   · rfl
   · split
     · rfl
     · omega
theorem Lm(m:Nat):FloatKind.f64.nearest (m:Int)≤9218868437227405312:=by
 unfold FloatKind.nearest FloatKind.encode;have d:decide ((m:Int)<0)=false:=by simp
 rw[d];show double.nearest false m 0≤_;unfold Format.nearest
 split
 · decide
 · simp only[Format.word,Bool.false_eq_true,if_false]
   exact Nat.le_trans (Nat.min_le_right _ _) dC
theorem cR{x:Nat}(h:x≤9218868437227405312):Op.negFloat .f64 x % 9223372036854775808=x:=by
 have e:(9223372036854775808:Nat)=2 ^ 63:=dC;have d:(FloatKind.f64.format.exponentBits+FloatKind.f64.format.fractionBits)=63:=dC;unfold Op.negFloat;rw[e,d,Nat.xor_mod_two_pow,Nat.mod_self,Nat.xor_zero,Nat.mod_eq_of_lt (by omega)]
theorem YM:∀n:Fin 15,(double.read (FM.getD n.val 0)).isNaN=false∧(double.read (FM.getD n.val 0)).isInfinity=false∧(double.read (FM.getD n.val 0)).isZero=false:=by decide +kernel
theorem Zd(neg:Bool)(m n:Nat)(h:n<15):∃r,FloatKind.f64.format.div (if neg then Op.negFloat .f64 (FloatKind.f64.nearest (m:Int)) else FloatKind.f64.nearest (m:Int)) (FM.getD n 0)=some r:=by
 have d:=Lm m
 have D:(double.read (if neg then Op.negFloat .f64 (FloatKind.f64.nearest (m:Int)) else FloatKind.f64.nearest (m:Int))).isNaN=false:=by
   apply Yk
   cases neg with
   |true=>rw[if_pos C,cR d];exact d
   |false=>rw[if_neg (by decide),Nat.mod_eq_of_lt (by omega)];exact d
 obtain⟨r,F⟩:=Pr (k:=double.fractionBits+2) D (YM ⟨n,h⟩);exact⟨double.write r,congrArg (Option.map double.write) F⟩
end Go.SP
namespace Go.SP
variable {n:Nat}
theorem dI(h:n<15):FM[n]?=some (FM.getD n 0):=by
 have d:n<FM.length:=h;rw[List.getD_eq_getElem?_getD,List.getElem?_eq_getElem d];rfl
end Go.SP
namespace Go.Proofs.YtnojaendcldjpaaGreatDoor
open Go.SW Go.SP Go.RowKit Go.Proofs.Tryz
theorem eI(w:wO)(c:UInt8)(r:lU)(J:48≤c.toNat∧c.toNat≤57) :
  AX prog 234 #[S (c::r),S [105,110,102,105,110,105,116,121]] w λv w'=>v=iV 0∧AW w w':=by
 have d:=AW.refl w;refine enter func234 C C C<|Az [] 11 (λ_=>Ac C (iG C C)<|Ay [.sq _] 10 (λ_=>?_));refine DM (λk σ ds w'=>k=1∧ds=[]∧σ=(E4 0 (S (c::r)) 1 (S [105,110,102,105,110,105,116,121]) 5 (iV (if (((c::r).length:Nat):Int)<(([105,110,102,105,110,105,116,121]:lU).length:Int) then (((c::r).length:Nat):Int) else (([105,110,102,105,110,105,116,121]:lU).length:Int))) 6 (iV 0))∧AW w w') 1 (E4 0 (S (c::r)) 1 (S [105,110,102,105,110,105,116,121]) 5 (iV (if (((c::r).length:Nat):Int)<(([105,110,102,105,110,105,116,121]:lU).length:Int) then (((c::r).length:Nat):Int) else (([105,110,102,105,110,105,116,121]:lU).length:Int))) 6 (iV 0)) lE ⟨C,C,C,d⟩ ?_;rintro _ _ _ wl ⟨rfl,rfl,rfl,d⟩;refine Az [] 8 (λ_=>sP 15 C (λh=>?_) (λh=>?_));refine Az [.sq _] 9 (λ_=>Ac C (C1 (c:=c) C C J7 dC C)<|Ay [.sq _,.bk _,.sq _] 9 (λ_=>sL 23 C (λD=>?_) (λD=>?_)))
 ·
  exfalso;have F:=dT D;omega
 refine Ay [.sq _,.sq _,.bk _,.sq _] 13 (λ_=>Ac C (C1 (c:=105) C C J7 dC C)<|Ay [.sq _,.bk _,.sq _] 3 (λ_=>sP 33 C (λG=>?_) (λG=>?_)));exact Az [.bk _,.sq _] 10 (λ_=>X8<|El [.bk _,.sq _] 2 (λ_=>Bp (Ao C (Af C))<|⟨C,d⟩))
 ·
  exfalso;exact absurd (show (c.toNat:Int)=105 by simpa using G) oM
 ·
  exfalso;have F:=dF h;revert F;simp only[List.length_cons,List.length_nil];split <;> omega
theorem TL(w:wO)(c:UInt8)(r:lU)(Q:48≤c.toNat∧c.toNat≤57) :
  AX prog 218 #[S (c::r)] w λv w'=>v=.tuple #[.float .f64 0,iV 0,.bool false]∧AW w w':=by
 have O:=AW.refl w;refine enter func218 C C C<|Az [] 15 (λ_=>sP 10 C (λh=>?_) (λh=>?_))
 ·
  exfalso;have d:=(beq_iff_eq).1 h;simp only[List.length_cons] at d;omega
 refine Az [.sq _] 17 (λ_=>Ac C (C1 (c:=c) C C J7 dC C)<|Ay [.sq _,.sq _] 18 (λ_=>sP 13 C (λD=>?_) (λD=>?_)))
 ·
  exfalso;have d:=(beq_iff_eq).1 D;omega
 refine Az [.sq _,.sq _,.sq _,.bk _,.sq _,.bk _,.sq _,.bk _,.sq _,.bk _,.sq _] 6 (λ_=>sP 13 C (λF=>?_) (λF=>?_))
 ·
  exfalso;have d:=(beq_iff_eq).1 F;omega
 refine Az [.sq _,.sq _,.bk _,.sq _,.bk _,.sq _,.bk _,.sq _,.bk _,.sq _] 11 (λ_=>sP 16 C (λG=>?_) (λG=>?_))
 ·
  exfalso;have d:=(beq_iff_eq).1 G;omega
 refine Az [.sq _,.sq _,.sq _,.bk _,.sq _,.bk _,.sq _,.bk _,.sq _,.bk _,.sq _] 6 (λ_=>sP 16 C (λJ=>?_) (λJ=>?_))
 ·
  exfalso;have d:=(beq_iff_eq).1 J;omega
 refine Az [.sq _,.sq _,.bk _,.sq _,.bk _,.sq _,.bk _,.sq _,.bk _,.sq _] 10 (λ_=>sP 19 C (λK=>?_) (λK=>?_))
 ·
  exfalso;have d:=(beq_iff_eq).1 K;omega
 refine Az [.sq _,.sq _,.bk _,.sq _,.bk _,.sq _,.bk _,.sq _,.bk _,.sq _] 6 (λ_=>sP 19 C (λL=>?_) (λL=>?_))
 ·
  exfalso;have d:=(beq_iff_eq).1 L;omega
 exact Az [.sq _,.bk _,.sq _,.bk _,.sq _,.bk _,.sq _,.bk _,.sq _] 20 (λ_=>Bp (Dy C (Af C) (Af C) (Af C))<|⟨C,O⟩)
theorem TK(w:wO)(c:UInt8)(r:lU)(F:48≤c.toNat∧c.toNat≤57) :
  AX prog 218 #[S (45::c::r)] w λv w'=>v=.tuple #[.float .f64 0,iV 0,.bool false]∧AW w w':=by
 have h:=AW.refl w;refine enter func218 C C C<|Az [] 15 (λ_=>sP 10 C (λD=>?_) (λD=>?_))
 ·
  exfalso;have G:=(beq_iff_eq).1 D;simp only[List.length_cons] at G;omega
 refine Az [.sq _] 17 (λ_=>Ac C (C1 (c:=45) C C J7 dC C)<|Ay [.sq _,.sq _] 34 (λ_=>Ac C (C1 (c:=45) C C J7 dC C)<|Ay [.sq _,.sq _,.bk _,.sq _,.bk _,.sq _,.bk _,.sq _] 15 (λ_=>Ac C (Mu C C J7)<|Ay [.bk _,.sq _,.bk _,.sq _,.bk _,.sq _] 8 (λ_=>A0 C (As tJ C C) (eI _ c r F) ?_))));rintro _ K ⟨rfl,d⟩;have h:=h.trans d;have J:=d.size;exact Ay [.sq _,.sq _,.bk _,.sq _,.bk _,.sq _] 43 (λ_=>Bp (Dy C (Af C) (Af C) (Af C))<|⟨C,h⟩)
theorem Un(w:wO)(c:UInt8)(d:46≤c.toNat∧c.toNat≤57) :
  AX prog 204 #[.int .u8 c.toNat] w λv w'=>v=.int .u8 c.toNat∧AW w w':=by
 have h:=AW.refl w;exact enter func204 C C C<|Az [] 8 (λ_=>Ac C (cX (c.toNat:Int) C C (low46 ⟨c.toNat,oM⟩ d.1))<|Ay [.sq _] 4 (λ_=>Bp (Ao C (Af C))<|⟨C,h⟩))
theorem N5(w:wO)(s:lU)(a b:lU)(ha:G1 a)(hb:G1 b)(J:a≠[])(hbne:b≠[])(hab:a.length+b.length≤15)(neg:Bool)(hs:s=(bif neg then [45] else [])++(a++46::b)) :
  AX prog 219 #[S s] w λv w'=>v=.tuple #[.int .u64 (CH 0 (a++b):Int),iV (if CH 0 (a++b)=0 then 0 else -(b.length:Int)),.bool neg,.bool false,.bool false,iV (s.length:Int),.bool true]∧AW w w':=by
 have hal:1≤a.length:=List.length_pos_iff.2 J;have hbl:1≤b.length:=List.length_pos_iff.2 hbne
 obtain⟨a0,ar,W⟩:∃c r,a=c::r:=by
  cases a with
  |nil=>exact absurd C J
  |cons c r=>exact⟨c,r,C⟩
 obtain⟨o,ho,ho1⟩:∃o,(bif neg then 1 else 0:Nat)=o∧o≤1:=⟨_,C,by cases neg <;> decide⟩;have Y:s.drop o=a++46::b:=by subst ho;rw[hs];cases neg <;> rfl
 have hlo:s.length=o+(a.length+(b.length+1)):=by subst ho;rw[hs];cases neg <;> simp <;> omega
 obtain⟨c0,Z,hcn⟩:∃c:UInt8,s[0]?=some c∧(c.toNat=45∧neg=true∨(48≤c.toNat∧c.toNat≤57)∧neg=false):=by
  cases neg with
  |true=>exact⟨45,by rw[hs];rfl,.inl ⟨C,C⟩⟩
  |false=>exact⟨a0,by rw[hs,W];rfl,.inr ⟨ha a0 (W▸List.mem_cons_self),C⟩⟩
 have ha0:s[o]?=some a0:=by rw[← Nat.add_zero o,← List.getElem?_drop,Y,W];rfl
 obtain⟨a1,ha1,ha1d⟩:=Xf (s:=s) (b:=b) o ha J Y;have F:=AW.refl w;refine enter func219 C C C<|Az [] 11 (λ_=>Xe<|Az [] 14 (λ_=>sP 24 C (λQ=>?_) (λQ=>?_)))
 ·
  exfalso;have d:=dT Q;omega
 refine Az [.sq _] 3 (λ_=>Rx (E9 0 (S s) 2 (.int .u64 0) 3 (iV 0) 4 (.bool neg) 5 (.bool false) 6 (.bool false) 7 (iV (o:Int)) 8 (.bool false) 9 (.bool false)) (λw'=>AW w w') ?_ ?_);refine Az [] 4 (λ_=>Ac C (C1 (c:=c0) C C J7 dC Z)<|Ay [.sq _] 9 (λ_=>sP 28 C (λh2=>?_) (λh2=>?_)))
 ·
  exfalso;have d:=(beq_iff_eq).1 h2;omega
 refine Az [.bk _] 7 (λ_=>sP 32 C (λh3=>?_) (λh3=>?_));refine Az [.bk _] 2 (λ_=>?_);obtain rfl:neg=true:=by have d:(c0.toNat:Int)=45:=(beq_iff_eq).1 h3;rcases hcn with h|h;exact h.2;omega
 subst ho;exact Az [.sq _,.bk _] 2 (λ_=>Ac C (J0 (1) C C dC)<|Ay [.sq _,.bk _] 7 (λ_=>PO lE F));obtain rfl:neg=false:=by have d:¬(c0.toNat:Int)=45:=(by simpa using h3);rcases hcn with h|h;omega;exact h.2
 subst ho;exact Az [.bk _] 3 (λ_=>PO lE F);rintro wl F;refine Az [] 15 (λ_=>Rx (E11 0 (S s) 2 (.int .u64 0) 3 (iV 0) 4 (.bool neg) 5 (.bool false) 6 (.bool false) 7 (iV (o:Int)) 8 (.bool false) 9 (.bool false) 10 (.int .u64 10) 11 (iV 19)) (λw'=>AW w w') ?_ ?_);refine Az [] 8 (aI ⟨oM,oM⟩<|λ_=>sL 41 C (λh4=>?_) (λh4=>?_));refine Ay [.sq _] 2 (λ_=>Bw C C C<|Ac C (C1 (c:=a0) C C J7 oM (by rw[Int.toNat_natCast];exact ha0))<|Ay [.sq _] 3 (λ_=>sL 47 C (λh5=>?_) (λh5=>?_)));refine Ay [.sq _] 3 (aI ⟨oM,oM⟩<|λ_=>Bw C C C<|Ac C (C1 (c:=a1) C C J7 oM ha1)<|Bw C C C<|A0 C (As vV C C) (Un _ a1 ha1d) ?_);rintro _ w1 ⟨rfl,hE1⟩;have F:=F.trans hE1;have sz1:=hE1.size;refine Ay [.sq _] 4 (λ_=>sP 54 C (λh6=>?_) (λh6=>?_))
 ·
  exfalso;have d:=(beq_iff_eq).1 h6;omega
 exact Az [] 2 (λ_=>PO lE F);exact Ay [.sq _] 11 (λ_=>PO lE F)
 ·
  exfalso;have d:=dF h4;omega
 rintro wl F;refine Az [] 26 (λ_=>X6<|El [.sq _] 3 (λ_=>?_));refine DM (λk σ ds w'=>∃(j m nd:Nat)(K:Int)(dot sd:Bool)(rest:lU),k=rest.length∧ds=[]∧σ=(yG 0 (S s) 2 (.int .u64 (m:Int)) 3 (iV 0) 4 (.bool neg) 5 (.bool false) 6 (.bool false) 7 (iV (j:Int)) 8 (.bool false) 9 (.bool false) 10 (.int .u64 10) 11 (iV 19) 13 (.bool dot) 14 (.bool sd) 15 (iV (nd:Int)) 16 (iV (nd:Int)) 17 (iV K))∧s.drop j=rest∧j+rest.length=s.length∧FV b dot rest∧CH 0 (a++b)=CH m (IU rest)∧(dot=true→K=(nd:Int)-((b.length:Int)-rest.length))∧nd≤j ∧ -(j:Int)≤K∧K≤j∧(nd=0↔m=0)∧(sd=true∨rest=a++46::b)∧AW w w') (a++46::b).length (yG 0 (S s) 2 (.int .u64 ((0:Nat):Int)) 3 (iV 0) 4 (.bool neg) 5 (.bool false) 6 (.bool false) 7 (iV (o:Int)) 8 (.bool false) 9 (.bool false) 10 (.int .u64 10) 11 (iV 19) 13 (.bool false) 14 (.bool false) 15 (iV ((0:Nat):Int)) 16 (iV ((0:Nat):Int)) 17 (iV 0)) lE ⟨o,0,0,0,false,false,a++46::b,C,C,C,Y,by rw[hlo];simp <;> omega,⟨a,C,ha⟩,by rw[XZ ha hb],(λh=>by cases h),oM,oM,oM,by simp,.inr C,F⟩ ?_;rintro _ _ _ wl ⟨j,m,nd,K,dot,sd,rest,rfl,rfl,rfl,L,G,hfv,D,U,hnd,hd1,hd2,O,hsd,F⟩;have hml:m<1000000000000000:=by have Q:=PU (IU rest) m;have h2:=OM (l:=a++b) (λx hx=>(List.mem_append.1 hx).elim (ha x) (hb x)) (by rw[List.length_append];exact hab);omega
 have hsl:s.length≤17:=oM;refine Az [] 9 (λ_=>sP 60 C (λh7=>?_) (λh7=>?_));refine Az [.sq _] 7 (λ_=>?_);rcases rest with _|⟨c,r⟩
 · exfalso;have d:=dT h7;simp at G;omega
 have hcj:s[j]?=some c:=QJ L;have hcl:=hfv.cons;have hc46:46≤c.toNat∧c.toNat≤57:=hcl.elim (λh=>by rw[h.1];decide) (λh=>by omega);refine Az [.sq _,.sq _,.bk _,.sq _] 3 (λ_=>Ac C (C1 (c:=c) C C J7 oM (by rw[Int.toNat_natCast];exact hcj))<|Ay [.sq _,.sq _,.bk _,.sq _] 8 (λ_=>Ac C (Rg un4 C C)<|Ay [.sq _,.bk _,.sq _,.bk _,.sq _] 3 (λ_=>sP 66 C (λh8=>?_) (λh8=>?_))))
 ·
  exfalso;have d:=(beq_iff_eq).1 h8;omega
 refine Az [.bk _,.sq _,.bk _,.sq _] 5 (λ_=>Ac C (Rg un4 C C)<|Ay [.sq _,.bk _,.sq _,.bk _,.sq _] 3 (λ_=>sP 70 C (λd=>?_) (λd=>?_)));refine Az [.bk _,.sq _,.bk _,.sq _] 3 (λ_=>?_);have hc6:(c.toNat:Int)=46:=by simpa using d
 obtain⟨hc6,hdf,hrb⟩:c=46∧dot=false∧r=b:=hcl.elim id (λh=>by omega);have hrb:=hrb.symm;subst hdf hrb hc6;have hsd2:sd=true:=hsd.resolve_right (λh=>by cases a with|nil=>exact J C|cons x a=>simp at h;have:=ha x (.head _);rw[← h.1] at this;revert this;decide);refine Az [.sq _,.sq _,.bk _,.sq _,.bk _,.sq _] 28 (aI ⟨oM,oM⟩<|λ_=>GS b.length (yG 0 (S s) 2 (.int .u64 (m:Int)) 3 (iV 0) 4 (.bool neg) 5 (.bool false) 6 (.bool false) 7 (iV ((j+1:Nat):Int)) 8 (.bool false) 9 (.bool false) 10 (.int .u64 10) 11 (iV 19) 13 (.bool true) 14 (.bool sd) 15 (iV (nd:Int)) 16 (iV (nd:Int)) 17 (iV (nd:Int))) (by simp) lE ⟨j+1,m,nd,(nd:Int),true,sd,b,C,C,C,J9 L,by simp only[List.length_cons] at G;omega,⟨hb,Nat.le_refl _⟩,by rw[D,OZ],(λ_=>by omega),oM,oM,oM,O,.inl hsd2,F⟩);refine Az [.bk _,.sq _,.bk _,.sq _] 2 (λ_=>?_);have hn6:(c.toNat:Int)≠46:=by simpa using d
 obtain⟨hcd,hfr⟩:(48≤c.toNat∧c.toNat≤57)∧FV b dot r:=hcl.elim (λh=>absurd (by rw[h.1];rfl) hn6) id;refine Az [.sq _,.bk _,.sq _,.bk _,.sq _] 4 (λ_=>sL 79 C (λh10=>?_) (λh10=>?_));refine Ay [.sq _,.bk _,.sq _,.bk _,.sq _] 3 (λ_=>Ac C (Rg un4 C C)<|Ay [.sq _,.bk _,.sq _,.bk _,.sq _] 3 (λ_=>sP 76 C (λh11=>?_) (λh11=>?_)));refine Az [.bk _,.sq _,.bk _,.sq _] 12 (λ_=>sL 86 C (λh12=>?_) (λh12=>?_));refine Ay [.sq _,.sq _,.bk _,.sq _,.bk _,.sq _] 5 (λ_=>sP 89 C (λh13=>?_) (λh13=>?_));refine Az [.sq _,.bk _,.sq _,.bk _,.sq _] 19 (aI ⟨oM,oM⟩<|aI ⟨oM,oM⟩<|λ_=>?_);have hm0:m=0:=O.1 (by have:=h13;simp at this;omega);have Z:c.toNat=48:=by have:=h12;simp at this;omega
 refine GS r.length (yG 0 (S s) 2 (.int .u64 (m:Int)) 3 (iV 0) 4 (.bool neg) 5 (.bool false) 6 (.bool false) 7 (iV ((j+1:Nat):Int)) 8 (.bool false) 9 (.bool false) 10 (.int .u64 10) 11 (iV 19) 13 (.bool dot) 14 (.bool true) 15 (iV (nd:Int)) 16 (iV (nd:Int)) 17 (iV (K-1))) (by simp) lE ⟨j+1,m,nd,K-1,dot,true,r,C,C,C,J9 L,by simp only[List.length_cons] at G;omega,hfr,by rw[D,HO hcd,Ml,Z,hm0],(λh=>by have Q:=U h;simp only[List.length_cons] at Q;omega),oM,oM,oM,O,.inl C,F⟩;refine Az [.sq _,.bk _,.sq _,.bk _,.sq _] 4 (λ_=>?_)
 have hnz:¬(m*10+(c.toNat-48)=0):=by
  intro d;have hm9:m=0:=oM;have hn9:=O.2 hm9;have h8:=h13;simp at h8;omega
 refine Az [.sq _,.bk _,.sq _,.bk _,.sq _] 14 (aI ⟨oM,oM⟩<|λ_=>sP 96 C (λh14=>?_) (λh14=>?_));refine Az [.sq _,.bk _,.sq _,.bk _,.sq _] 5 (λ_=>Ac C (KS ((m:Int)*10) C C (EB ⟨oM,oM⟩))<|Ay [.sq _,.sq _,.bk _,.sq _,.bk _,.sq _] 7 (λ_=>Ac C (Ck ((c.toNat:Int)-48) C C (Io ⟨oM,oM⟩))<|Ac C (BW (m:=(c.toNat:Int)-48) C Ru (EB ⟨oM,oM⟩))<|Ac C (J0 ((m:Int)*10+((c.toNat:Int)-48)) C C (EB ⟨oM,oM⟩))<|Ay [.sq _,.sq _,.bk _,.sq _,.bk _,.sq _] 19 (aI ⟨oM,oM⟩<|aI ⟨oM,oM⟩<|λ_=>?_)));have hme:(m:Int)*10+((c.toNat:Int)-48)=((m*10+(c.toNat-48):Nat):Int):=oM;refine GS r.length (yG 0 (S s) 2 (.int .u64 ((m*10+(c.toNat-48):Nat):Int)) 3 (iV 0) 4 (.bool neg) 5 (.bool false) 6 (.bool false) 7 (iV ((j+1:Nat):Int)) 8 (.bool false) 9 (.bool false) 10 (.int .u64 10) 11 (iV 19) 13 (.bool dot) 14 (.bool true) 15 (iV ((nd+1:Nat):Int)) 16 (iV ((nd+1:Nat):Int)) 17 (iV K)) (by simp) (yU C (hme▸rfl) C C C C C C C C C C C C C C) ⟨j+1,m*10+(c.toNat-48),nd+1,K,dot,true,r,C,C,C,J9 L,by simp only[List.length_cons] at G;omega,hfr,by rw[D,HO hcd,Ml],(λh=>by have Q:=U h;simp only[List.length_cons] at Q;omega),oM,oM,oM,⟨λh=>by omega,λh=>?_⟩,.inl C,F⟩;exfalso;have hz:=hnz;omega
 ·
  exfalso;have d:=dF h14;omega
 refine Ay [.sq _,.sq _,.bk _,.sq _,.bk _,.sq _] 9 (λ_=>?_)
 have hnz:¬(m*10+(c.toNat-48)=0):=by
  intro d;have hm9:m=0:=oM;have hn9:=O.2 hm9;have h8:=h12;simp at h8;omega
 refine Az [.sq _,.bk _,.sq _,.bk _,.sq _] 14 (aI ⟨oM,oM⟩<|λ_=>sP 96 C (λh15=>?_) (λh15=>?_));refine Az [.sq _,.bk _,.sq _,.bk _,.sq _] 5 (λ_=>Ac C (KS ((m:Int)*10) C C (EB ⟨oM,oM⟩))<|Ay [.sq _,.sq _,.bk _,.sq _,.bk _,.sq _] 7 (λ_=>Ac C (Ck ((c.toNat:Int)-48) C C (Io ⟨oM,oM⟩))<|Ac C (BW (m:=(c.toNat:Int)-48) C Ru (EB ⟨oM,oM⟩))<|Ac C (J0 ((m:Int)*10+((c.toNat:Int)-48)) C C (EB ⟨oM,oM⟩))<|Ay [.sq _,.sq _,.bk _,.sq _,.bk _,.sq _] 19 (aI ⟨oM,oM⟩<|aI ⟨oM,oM⟩<|λ_=>?_)));have hme:(m:Int)*10+((c.toNat:Int)-48)=((m*10+(c.toNat-48):Nat):Int):=oM;refine GS r.length (yG 0 (S s) 2 (.int .u64 ((m*10+(c.toNat-48):Nat):Int)) 3 (iV 0) 4 (.bool neg) 5 (.bool false) 6 (.bool false) 7 (iV ((j+1:Nat):Int)) 8 (.bool false) 9 (.bool false) 10 (.int .u64 10) 11 (iV 19) 13 (.bool dot) 14 (.bool true) 15 (iV ((nd+1:Nat):Int)) 16 (iV ((nd+1:Nat):Int)) 17 (iV K)) (by simp) (yU C (hme▸rfl) C C C C C C C C C C C C C C) ⟨j+1,m*10+(c.toNat-48),nd+1,K,dot,true,r,C,C,C,J9 L,by simp only[List.length_cons] at G;omega,hfr,by rw[D,HO hcd,Ml],(λh=>by have Q:=U h;simp only[List.length_cons] at Q;omega),oM,oM,oM,⟨λh=>by omega,λh=>?_⟩,.inl C,F⟩;exfalso;have hz:=hnz;omega
 ·
  exfalso;have d:=dF h15;omega
 ·
  exfalso;have d:=dF h11;omega
 ·
  exfalso;have d:=dF h10;omega
 refine Az [.sq _] 3 (λ_=>Ox<|El [.bk _,.sq _] 4 (λ_=>?_));have hrn:rest=[]:=by cases rest with|nil=>rfl|cons x r=>exfalso;have d:=dF h7;simp only[List.length_cons] at G;omega
 subst hrn;have hdt:=hfv.nil;subst hdt;have hst:sd=true:=hsd.resolve_right (λh=>by cases a <;> cases h);subst hst;have hdp2:=U C;simp only[List.length_nil] at hdp2 G;have hM:CH 0 (a++b)=m:=by rw[D];exact V8 m
 refine Az [.sq _,.sq _] 36 (λ_=>sL 154 C (λEg=>?_) (λEg=>?_))
 ·
  exfalso;have d:=dT Eg;omega
 refine Ay [.sq _,.sq _] 26 (λ_=>sP 241 C (λEE=>?_) (λEE=>?_));exact Az [.sq _] 30 (aI ⟨oM,oM⟩<|λ_=>nR<|Bp (qK C (Af C) (Af C) (Af C) (Af C) (Af C) (Af C) (Af C))<|⟨by rw[if_neg (by rw[hM];have d:=EE;simp at d;omega),hM,show K-(nd:Int) = -(b.length:Int) by omega,show ((j:Nat):Int)=(s.length:Int) by omega],F⟩);exact Az [.sq _] 25 (λ_=>nR<|Bp (qK C (Af C) (Af C) (Af C) (Af C) (Af C) (Af C) (Af C))<|⟨by rw[if_pos (by rw[hM];have d:=EE;simp at d;omega),hM,show ((j:Nat):Int)=(s.length:Int) by omega],F⟩)
theorem uO:Extern.findNext Tryz.f228=none:=kR
theorem xL:Extern.find Tryz.f228=some Extern.MathFloatBits.float64frombits:=kR
theorem Us:cvF prog 170 218=some .f64:=kR
theorem TX(w:wO)(L:Gl w)(m n:Nat)(neg:Bool)(hm:m<1000000000000000)(hn:1≤n∧n≤14) :
  AX prog 229 #[.int .u64 (m:Int),iV (-(n:Int)),.bool neg] w λv w'=>v=.tuple #[.float .f64 ((FloatKind.f64.format.div (if neg then Op.negFloat .f64 (FloatKind.f64.nearest (m:Int)) else FloatKind.f64.nearest (m:Int)) (FM.getD n 0)).getD 0),.bool true]∧AW w w':=by
 obtain⟨pb,po,pn,pc,F,hp2,G⟩:=L.pow10;have h:=AW.refl w;refine enter func229 C C C<|Az [] 11 (λ_=>Ac C (Lk C ti238 (L.ext h).finfo)<|Ac C (QA 0 C C dC (by rw[show min (52:Int).toNat IntKind.u64.bits=52 by decide,S0,Nat.div_eq_of_lt (by omega)];rfl))<|Ay [.sq _,.sq _] 9 (λ_=>Ac C (Uv C Us)<|Ay [.sq _] 9 (λ_=>?_)))
 ·
  refine sP 15 C (λJ=>?_) (λJ=>?_);refine Az [.sq _] 3 (λ_=>Ac C (gN C)<|Ay [.sq _] 12 (λ_=>sP 18 C (λO=>?_) (λO=>?_)))
  ·
   exfalso;have d:=(beq_iff_eq).1 O;omega
  refine Az [.bk _,.sq _] 6 (λ_=>sL 25 C (λQ=>?_) (λQ=>?_))
  ·
   exfalso;have d:=dT Q;omega
  refine Ay [.sq _,.bk _,.sq _] 12 (λ_=>sL 53 C (λU=>?_) (λU=>?_));refine Ay [.sq _,.bk _,.sq _] 6 (λ_=>sP 50 C (λW=>?_) (λW=>?_))
  rotate_left
  ·
   exfalso;have d:=dF W;omega
  ·
   exfalso;have d:=dF U;omega
  refine Az [.sq _] 12 (λ_=>sP 18 C (λY=>?_) (λY=>?_))
  ·
   exfalso;have d:=(beq_iff_eq).1 Y;omega
  refine Az [.bk _,.sq _] 6 (λ_=>sL 25 C (λZ=>?_) (λZ=>?_))
  ·
   exfalso;have d:=dT Z;omega
  refine Ay [.sq _,.bk _,.sq _] 12 (λ_=>sL 53 C (λh8=>?_) (λh8=>?_));refine Ay [.sq _,.bk _,.sq _] 6 (λ_=>sP 50 C (λd=>?_) (λd=>?_))
  rotate_left
  ·
   exfalso;have d:=dF d;omega
  ·
   exfalso;have d:=dF h8;omega
  all_goals
   refine Az [.bk _,.sq _] 2 (λ_=>?_);obtain⟨r,D⟩:=Zd neg m n oM;rw[J] at D;simp only[Bool.false_eq_true,if_true,if_false] at D;have K:=dI (show n<15 by omega);refine Az [.sq _,.bk _,.sq _] 2 (λ_=>Ac C (Lk C ti355 (FD F h))<|Ac C (Aw C)<|Ac C (Lw (n:Int) C (by rw[CL ⟨by omega,by omega⟩];omega))<|Ac C (Me (i:=n) C C sl355 oM)<|Ac C (Lk C ti218 (by rw[Nat.mul_one];exact FD (G n _ K) h))<|Ac C (Wo C C D)<|Ay [.sq _,.bk _,.sq _] 7 (λ_=>Bp (Bl C (Af C) (Af C))<|⟨?_,h⟩));rw[J];simp only[Bool.false_eq_true,if_true,if_false];rw[D];rfl

theorem Vv(w:wO)(neg:Bool) :
  AX prog 227 #[.bool neg] w λv w'=>v=.int .u64 (if neg then 1 else 0)∧AW w w':=by
 have h:=AW.refl w;refine enter func227 C C C<|Az [] 11 (λ_=>sP 3 C (λd=>?_) (λd=>?_));exact Az [.sq _] 8 (λ_=>Bp (Ao C (Af C))<|⟨by rw[d];rfl,h⟩);exact Az [.sq _] 9 (λ_=>Bp (Ao C (Af C))<|⟨by rw[d];rfl,h⟩)
theorem Sq(w:wO)(s a b:lU)(neg:Bool)(F:G1 a)(d:a≠[])(h:s=if neg then 45::(a++46::b) else a++46::b) :
  AX prog 218 #[S s] w λv w'=>v=.tuple #[.float .f64 0,iV 0,.bool false]∧AW w w':=by
 cases a with
 |nil=>exact absurd C d
 |cons c r =>
  have D:=F c (.head _)
  cases neg with
  |true=>rw[h];exact TK w c (r++46::b) D
  |false=>rw[h];exact TL w c (r++46::b) D
theorem OP(w:wO)(s a b:lU)(neg:Bool)(F:G1 a)(G:G1 b)(d:a≠[])(h:b≠[])(D:a.length+b.length≤15)(J:s=if neg then 45::(a++46::b) else a++46::b) :
  AX prog 219 #[S s] w λv w'=>v=.tuple #[.int .u64 (CH 0 (a++b):Int),iV (if CH 0 (a++b)=0 then 0 else -(b.length:Int)),.bool neg,.bool false,.bool false,iV (s.length:Int),.bool true]∧AW w w':=by
 cases neg with
 |true=>exact N5 w s a b F G d h D true J
 |false=>exact N5 w s a b F G d h D false J
theorem T9(w:wO)(Z:Gl w)(s:lU)(a b:lU)(U:G1 a)(hb:G1 b)(h:a≠[])(F:b≠[])(J:a.length+b.length≤15)(neg:Bool)(hs:s=if neg then 45::(a++46::b) else a++46::b) :
  AX prog 209 #[S s] w λv w'=>v=.tuple #[.float .f64 (Mw neg a b),iV (s.length:Int),.nilIface]∧AW w w':=by
 have hal:1≤a.length:=List.length_pos_iff.2 h;have hbl:1≤b.length:=List.length_pos_iff.2 F;have W:=OM (l:=a++b) (λx hx=>(List.mem_append.1 hx).elim (U x) (hb x)) (by rw[List.length_append];exact J);have d:=AW.refl w;refine enter func209 C C C<|Az [] 11 (λ_=>A0 C (As wS C C) (Sq _ s a b neg U h hs) ?_);rintro _ w1 ⟨rfl,K⟩;have d:=d.trans K;have sz1:=K.size;refine Ay [.sq _,.sq _] 20 (λ_=>A0 C (As xN C C) (OP _ s a b neg U hb h F J hs) ?_);rintro _ w2 ⟨rfl,L⟩;have d:=d.trans L;have sz2:=L.size;refine Ay [.sq _] 39 (λ_=>Ac C (Lk C vT (Z.ext d).optimize)<|Ay [.sq _,.sq _] 6 (λ_=>A0 C (As uK C C) (Vv _ neg) ?_));rintro _ w3 ⟨rfl,O⟩;have d:=d.trans O;have sz3:=O.size;refine Ac C (Jo (if neg then 9223372036854775808 else 0) C C dC (by cases neg <;> decide))<|Ay [.sq _,.sq _] 10 (λ_=>sP 69 C (λY=>?_) (λY=>?_));refine Az [.sq _,.sq _] 4 (λ_=>Ac C (cX (if neg then 9223372036854775808 else 0) C C (by cases neg <;> decide))<|Ac C (V3 func228 C C uO xL C C C)<|Ay [.sq _,.sq _,.sq _] 9 (λ_=>Bp (Dy C (Af C) (Af C) (Af C)) ?_));have D:CH 0 (a++b)=0:=by have G:=(beq_iff_eq).1 Y;omega
 exact⟨by cases neg <;> simp[Mw,D],d⟩;refine Az [.sq _,.sq _] 10 (λ_=>sP 75 C (λh2=>?_) (λh2=>?_))
 ·
  exfalso;have G:=dT h2;revert G;split <;> omega
 refine Az [.sq _,.sq _] 10 (λ_=>sP 82 C (λh3=>?_) (λh3=>?_))
 ·
  exfalso;have G:=dT h3;revert G;split <;> omega
 refine Az [.sq _,.sq _] 16 (λ_=>?_);have D:¬CH 0 (a++b)=0:=by have G:=Y;simp at G;omega
 refine A0 C (As vC C C) ((show (if CH 0 (a++b)=0 then (0:Int) else -(b.length:Int)) = -(b.length:Int) from if_neg D)▸TX _ (Z.ext d) (CH 0 (a++b)) b.length neg W oM) ?_;rintro _ w4 ⟨rfl,Q⟩;have d:=d.trans Q;have sz4:=Q.size;exact Ay [.sq _,.sq _,.sq _] 25 (λ_=>Bp (Dy C (Af C) (Af C) (Af C))<|⟨by rw[Mw,if_neg D],d⟩)
theorem Is(w:wO)(J:Gl w)(s:lU)(a b:lU)(K:G1 a)(L:G1 b)(d:a≠[])(h:b≠[])(G:a.length+b.length≤15)(neg:Bool)(O:s=if neg then 45::(a++46::b) else a++46::b) :
  AX prog 192 #[S s,iV 64] w λv w'=>v=.tuple #[.float .f64 (Mw neg a b),iV (s.length:Int),.nilIface]∧AW w w':=by
 have F:=AW.refl w;refine enter func192 C C C<|Az [] 20 (λ_=>A0 C (As rX C C) (T9 _ (J.ext F) s a b K L d h G neg O) ?_);rintro _ U ⟨rfl,D⟩;have F:=F.trans D;have Q:=D.size;exact Ay [.sq _] 9 (λ_=>Bp (Dy C (Af C) (Af C) (Af C))<|⟨C,F⟩)
theorem LL(w:wO)(K:Gl w)(s:lU)(a b:lU)(L:G1 a)(O:G1 b)(d:a≠[])(h:b≠[])(G:a.length+b.length≤15)(neg:Bool)(Q:s=if neg then 45::(a++46::b) else a++46::b) :
  AX prog 170 #[S s,iV 64] w λv w'=>v=.tuple #[.float .f64 (Mw neg a b),.nilIface]∧AW w w':=by
 have F:=AW.refl w;refine enter func170 C C C<|Az [] 10 (λ_=>A0 C (As xS C C) (Is _ (K.ext F) s a b L O d h G neg Q) ?_);rintro _ W ⟨rfl,D⟩;have F:=F.trans D;have U:=D.size;refine Ay [.sq _] 18 (λ_=>sP 19 C (λJ=>?_) (λJ=>?_))
 ·
  exfalso;simp at J
 exact Az [.sq _] 12 (λ_=>Bp (Bl C (Af C) (Af C))<|⟨C,F⟩)
theorem M9(w:wO)(J:Gl w)(s:lU)(a b:lU)(K:G1 a)(L:G1 b)(d:a≠[])(h:b≠[])(G:a.length+b.length≤15)(neg:Bool)(O:s=if neg then 45::(a++46::b) else a++46::b) :
  AX prog 147 #[S s,iV 64] w λv w'=>v=.tuple #[.float .f64 (Mw neg a b),.nilIface]∧AW w w':=by
 have F:=AW.refl w;refine enter func147 C C C<|Az [] 10 (λ_=>A0 C (As rJ C C) (LL _ (J.ext F) s a b K L d h G neg O) ?_);rintro _ U ⟨rfl,D⟩;have F:=F.trans D;have Q:=D.size;exact Ay [.sq _] 11 (λ_=>Ac C (H6 FN C)<|Ay [.sq _,.sq _] 13 (λ_=>Bp (Bl C (Af C) (Af C))<|⟨C,F⟩))
theorem pfs:PFS:=λw s a b D hlen F=>by
 obtain⟨G,J,K,L,O,d⟩:=QN F;refine M9 w D s a b G J K L O (F6 s) ?_;rcases GD s with h|⟨r,rfl⟩
 · rw[h,if_neg (by decide),← d,Fg h]
 ·
  rw[Fi] at d;rw[d];rfl
end Go.Proofs.YtnojaendcldjpaaGreatDoor
namespace Go.SP
theorem Fo.len_snoc':∀(a:Fo)(t:Aq)(k:Fo),(a.snoc t k).len=a.len+1
 |.nil,_,_=>rfl
 |.cons _ _ r,t,k=>by simp only[Fo.snoc,Fo.len,Fo.len_snoc' r t k]
theorem Fo.ok_snoc:∀(a:Fo)(t:Aq)(k:Fo),a.ok→t.ok→k.ok→k.len≤100000→(a.snoc t k).ok
 |.nil,_,_,_,d,D,F=>⟨d,D,F,tQ⟩
 |.cons _ _ r,t,k,h,d,D,F=>⟨h.1,h.2.1,h.2.2.1,Fo.ok_snoc r t k h.2.2.2 d D F⟩
theorem Fo.deep_snoc:∀(a:Fo)(n:Nat)(t:Aq)(k:Fo),a.deep (n+1)=true→k.deep n=true→(a.snoc t k).deep (n+1)=true
 |.nil,n,t,k,_,h=>by simp[Fo.snoc,Fo.deep,h]
 |.cons u l r,n,t,k,d,D=>by
   simp only[Fo.deep,Bool.and_eq_true] at d;simp only[Fo.snoc,Fo.deep,Bool.and_eq_true];exact⟨d.1,Fo.deep_snoc r n t k d.2 D⟩
def StI:Nat→List (Aq×Fo)→Prop
 |_,[]=>True
 |i,(o,p)::s=>o.ok∧p.ok∧p.len≤i∧p.deep (201-s.length)=true∧StI i s
theorem StI.up:∀{i:Nat}{st:List (Aq×Fo)},StI i st→StI (i+1) st
 |_,[],_=>trivial
 |_,_::_,⟨a,b,c,d,e⟩=>⟨a,b,Nat.le_succ_of_le c,d,e.up⟩
theorem Ia:∀(l:List Aq)(i:Nat)(st:List (Aq×Fo))(cur fo:Fo),(∀t∈l,t.ok)→i+l.length≤100000→st.length≤200→StI i st→cur.ok→cur.len≤i→cur.deep (201-st.length)=true →
   A7 l st cur=.ok fo→fo.ok∧fo.len≤i+l.length∧fo.deep 201=true
 | [],i,[],cur,fo,_,_,_,_,F,O,d,h=>by
   simp only[A7] at h
   cases h
   exact⟨F,by simpa using O,by simpa using d⟩
 | [],i,(o,p)::s,cur,fo,_,_,_,_,_,_,_,h=>by
   unfold A7 at h
   split at h <;> cases h
 |k::l,i,st,cur,fo,Q,Y,U,K,F,O,d,h=>by
   have W:k.ok:=Q k (.head _);have D:∀t∈l,t.ok:=λt Z=>Q t (.tail _ Z);simp only[List.length_cons] at Y;unfold A7 at h
   split at h
   · split at h
     · cases h
     · rename_i G
       have hne:st.length≠200:=by simpa using G
       have:=Ia l (i+1) ((k,cur)::st) .nil fo D oM (by simp only[List.length_cons];omega) ⟨W,F,oM,d,K.up⟩ tQ (by simp[Fo.len]) (by simp[Fo.deep]) h;refine⟨this.1,?_,this.2.2⟩;have:=this.2.1;simp only[List.length_cons];omega
   · split at h
     · cases st with
       |nil=>cases h
       |cons op s =>
         obtain⟨o,p⟩:=op;simp only at h;obtain⟨ho,hp,hpl,J,L⟩:=K;simp only[List.length_cons] at U d;have e:201-s.length=(201-(s.length+1))+1:=oM;have:=Ia l (i+1) s (p.snoc o cur) fo D oM oM L.up (Fo.ok_snoc p o cur hp ho F oM) (by rw[Fo.len_snoc'];omega) (by rw[e] at J ⊢;exact Fo.deep_snoc p _ o cur J d) h;refine⟨this.1,?_,this.2.2⟩;have:=this.2.1;simp only[List.length_cons];omega
     · have e:201-st.length=(201-(st.length+1))+1:=oM
       have:=Ia l (i+1) st (cur.snoc k .nil) fo D oM U K.up (Fo.ok_snoc cur k .nil F W tQ (by simp[Fo.len])) (by rw[Fo.len_snoc'];omega)
         (by rw[e] at d ⊢;exact Fo.deep_snoc cur _ k .nil d (by simp[Fo.deep])) h
       refine⟨this.1,?_,this.2.2⟩;have:=this.2.1;simp only[List.length_cons];omega
variable {fo:Fo}{toks:List Aq}
theorem Ov(d:∀t∈toks,t.ok)(G:toks.length≤100000)(h:A7 toks [] .nil=.ok fo):fo.all (DP 200)∧fo.len≤100000:=by
 obtain⟨D,J,F⟩:=Ia toks 0 [] .nil fo d oM (by simp) tQ tQ (by simp[Fo.len]) (by rfl) h;exact⟨HJ 200 fo D F,oM⟩
end Go.SP
namespace Go.SP
open Go.SW Go.RowKit
variable {nm:Int}{ot toks:List Aq}{F:Nat}{p1:Ps}{src:lU}
theorem Pb:∀(n:Nat)(p:Ps)(l:lU)(toks:List Aq),FU F n p l=.ok toks→toks.length≤n
 |n,p,[],toks,h=>by rw[Hz] at h;cases h;exact Nat.zero_le _
 |0,p,c::l,toks,h=>by cases h
 |n+1,p,c::l,toks,h=>by
   rw[Gv] at h
   split at h
   · cases h
   · rename_i t d D G
     split at h
     · cases h
     · rename_i J K
       cases h
       have:=Pb n D d J K;have:=PM G;rw[List.length_append];omega
theorem NI{start:Ps}:∀(n:Nat)(p:Ps)(acc l tx r:lU)(d:Ps),Fp start n p acc l=.ok (tx,r,d)→tx.length≤4096
 |0,_,_,_,_,_,_,h=>by cases h
 |n+1,p,acc,[],tx,r,d,h=>by cases h
 |n+1,p,acc,c::l,tx,r,d,h=>by
   rw[Ex] at h
   split at h
   · split at h
     · cases h
     · rename_i hd
       cases h
       simp at hd;omega
   · split at h
     · cases h
     · split at h
       · exact NI n _ _ _ tx r d h
       · split at h
         · cases h
         · split at h
           · cases h
           · exact NI n _ _ _ tx r d h
theorem bQ{w:lU}{k:Int}{tx:lU}(d:w≠[])(h:D9 w=some (k,nm,tx)):(k=5→tx≠[])∧tx.length≤100000∧k≠0∧k≠1:=by
 unfold D9 at h
 split at h
 · cases h;simp
 · split at h
   · cases h;simp[LP,PA]
   · split at h
     · cases h
     · rename_i D
       simp only[Bool.or_eq_true,not_or,decide_eq_true_eq] at D
       split at h
       · cases h;exact⟨by simp,oM,dC,dC⟩
       · split at h
         · cases h;exact⟨λ_=>d,oM,dC,dC⟩
         · cases h
theorem Zz{p:Ps}{l r:lU}(h:Dw F p l=.ok (ot,r,p1)):∀t∈ot,t.ok:=by
 cases l with
 |nil=>cases h
 |cons c r =>
   rw[D2] at h
   split at h
   · cases h;simp
   · split at h
     · simp only[Except.ok.injEq,Prod.mk.injEq] at h;rw[← h.1];simp
     · split at h
       · cases h;simp[Aq.ok]
       · split at h
         · cases h;simp[Aq.ok]
         · split at h
           · split at h
             · cases h
             · rename_i tx D G d
               cases h
               have:=NI _ _ _ _ _ _ _ d;simp only[List.mem_singleton,forall_eq,Aq.ok];exact⟨by simp,oM⟩
           · split at h
             · cases h
             · rename_i k nm tx hw
               simp only[Except.ok.injEq,Prod.mk.injEq] at h;rw[← h.1];simp only[List.mem_singleton,forall_eq,Aq.ok];have:=bQ (by simp) hw;exact⟨this.1,this.2.1⟩
theorem Tt:∀(n:Nat)(p:Ps)(l:lU)(toks:List Aq),FU F n p l=.ok toks→∀t∈toks,t.ok
 |n,p,[],toks,h=>by rw[Hz] at h;cases h;simp
 |0,p,c::l,toks,h=>by cases h
 |n+1,p,c::l,toks,h=>by
   rw[Gv] at h
   split at h
   · cases h
   · rename_i t D G J
     split at h
     · cases h
     · rename_i K L
       cases h
       intro t d;rcases List.mem_append.1 d with d|d
       · exact Zz J t d
       · exact Tt n G D K L t d
theorem Nn(h:EG src=.ok toks):toks.length≤100000∧∀t∈toks,t.ok:=by
 unfold EG at h
 split at h
 · cases h
 · rename_i D
   simp only[decide_eq_true_eq] at D
   split at h
   · cases h
   · rename_i l d
     cases h
     exact⟨by have:=Pb _ _ _ _ d;omega,Tt _ _ _ _ d⟩
theorem aX{e:Int×Int×Int}(h:EG src=.error e):(e.2.2 != 0)=true:=by
 unfold EG at h
 split at h
 · cases h;rfl
 · split at h <;> cases h
   rfl
end Go.SP
namespace Go.Proofs.YtnojaendcldjpaaGreatDoor
open Go.SW Go.SP Go.RowKit Go.Proofs.Tryz
def Ci(src:lU):Nd×Int×Int×Int:=FX 200 (EG src)
abbrev parV(p:Nd×Int×Int×Int)(a:oA)(c:Nat):Value:=.tuple #[.slice a p.1.len c,.agg #[.int .i64 p.2.1,.int .i64 p.2.2.1],.int .i64 p.2.2.2]
variable {f:Fq}{w w':wO}
theorem S3.out{p:Nd×Int×Int×Int}{v:Value}(h:S3 p w f v w'):AU (α:=oA×Nat) (λx=>parV p x.1 x.2) (λ_=>True) (λx=>[λw f=>Bc w f p.1 x.1 x.2]) w f v w' :=
 let ⟨f',a,c,d,D,F⟩:=h
 ⟨(a,c),f',D,tQ,d,F,tQ⟩
theorem T4(w:wO)(f:Fq)(K:Vl w f)(L:Dm w f)(src:lU) :
   AX prog 9 #[S src] w (AU (α:=oA×Nat) (λx=>parV (Ci src) x.1 x.2) (λ_=>True) (λx=>[λw f=>Bc w f (Ci src).1 x.1 x.2]) w f):=by
 refine AX.mono (R:=S3 (Ci src) w f) ?_ λ_ _ h=>S3.out h;unfold Ci
 cases F:EG src with
 |error e =>
   exact Yc w f K L 199 src e (aX F) λG d=>by
     have:=PH pfs G d src;rw[F] at this;exact this
 |ok D =>
   obtain⟨O,Q⟩:=Nn F
   exact bV w f K L 199 src D O (λU J=>Ov Q O J) λG d=>by
     have:=PH pfs G d src;rw[F] at this;exact this
theorem F7(w:wO)(f:Fq)(d:Vl w f)(n:Int) :
  AX prog 15 #[iV n] w (AU (α:=Unit) (λ_=>tV (.var n) none 0) (λ_=>True) (λ_=>[]) w f):=by
 exact Ed [] func15 C C C (Be d tQ tQ)<|Ae 13 [0] (λb1=>y<|λ_=>mrU (λw f h=>Ao C (Ab C CA h.k0 C)) C)
theorem M3(w:wO)(f:Fq)(Q:Vl w f)(l:List Int)(a:oA)(c:Nat)(n:Int)(Z:l.length≤1000000)(U:Cg w f l a c) :
  AX prog 129 #[.slice a l.length c,iV n] w (AU (α:=Unit) (λ_=>iV (Yt l n)) (λ_=>True) (λ_=>[]) w f):=by
 refine Ed [λw f=>Cg w f l a c] func129 C C C (Be Q ⟨U,tQ⟩ ⟨Cg.mono,tQ⟩)<|Aa 14 (λ_=>?_);refine DK (α:=Nat) (λi=>l.length-i) (λi=>i≤l.length∧(l.take i).contains n=false) (λi=>(E4 0 (.slice a l.length c) 1 (iV n) 7 (iV (l.length:Int)) 8 (iV (i:Int)))) (λi=>X0 w f) (λi=>[]) (λi=>[]) (λi=>[]) (λi=>[λw f=>Cg w f l a c]) (0) ⟨oM,C⟩ lE (λw f D=>D) ?_;rintro i ⟨hi,d⟩;refine Aa 6 (λ_=>Ap 9 C C (λG=>?_) (λG=>?_));refine Aa 12 (λ_=>?_);have J:i<l.length:=by have:=dT G;omega
 obtain⟨v0,K⟩:∃v,l[i]?=some v:=⟨_,List.getElem?_eq_getElem J⟩;refine rA 0 C K ?_;rintro⟨b,off⟩ rfl;refine Ae 9 [100,0] (aI oM<|y2<|λ_=>Ap 16 C C (λL=>?_) (λL=>?_));exact Aa 10 (λ_=>Hf<|Aa 2 (λ_=>A5 (Cb C C) (λw f D=>⟨(),f,(by rw[Yt,Wt d (by rw[K,show v0=n from (beq_iff_eq.1 L).symm])]),tQ,D.exm,tQ⟩)));refine Aa 8 (aI ⟨oM,oM⟩<|λ_=>?_);have F:(l.take (i+1)).contains n=false:=by rw[CZ K];have W:¬n=v0:=(by simpa using L);have Y:n∉l.take i:=(by simpa using d);simp[Y,W]
 exact Ce (i+1) (show l.length-(i+1)<l.length-i by omega) ⟨oM,F⟩ lE (λw f D=>⟨_,D.less sR sR nE (λ_ h=>h)⟩);refine Aa 3 (λ_=>Df<|Aa 8 (λ_=>?_));have O:l.length≤i:=by have:=dF G;omega
 rw[List.take_of_length_le O] at d;exact A5 (Cb C C) (λw f D=>⟨(),f,(by rw[Yt,NN d]),tQ,D.exm,tQ⟩)
theorem Zn(m:Nat)(Z:OwnF prog 130 m)(w:wO)(f:Fq)(hv:Vl w f)(t:T1)(a:oA)(c:Nat)(hm:t.kids.size<m+1)(D:t.bnd)(hT:Al w f t.kids a c) :
  AX prog 130 #[tV t a c] w (AU (α:=oA×Nat) (λx=>tV t x.1 x.2) (λ_=>True) (λx=>[λw f=>Al w f t.kids x.1 x.2]) w f):=by
 have hbl:=D.1;refine Ed [λw f=>Al w f t.kids a c] func130 C C C (Be hv ⟨hT,tQ⟩ ⟨Al.mono,tQ⟩)<|Ae 15 [1] (λb1=>λb2=>y<|λ_=>Ap 9 C C (λU=>?_) (λU=>?_));refine Ae 15 [1,1,0] (y<|y<|y<|λ_=>?_);have W:t.kids.len=0:=by have:=beq_iff_eq.1 U;omega
 exact A5 (λw f d=>Ao C (Ab C CA d.k0 C)) (λw f d=>⟨(none,0),f,(by show Value.agg _=Value.agg _;rw[W]),tQ,d.exm,⟨by rw[Ty.len0 W];exact Al.nil _ _ _ _,tQ⟩⟩);refine Ae 8 [1] (y<|λ_=>mmk C C I1 C C C C (by have:=D.1;omega) (by have:=D.1;unfold maxLen;omega) λF=>Ae 13 [1] (y<|λ_=>?_));refine DK (α:=Nat×Ty×Ty×lV) (λx=>x.2.1.len) (λx=>x.1+x.2.1.len=t.kids.len∧x.2.2.1.len=x.1∧t.kids=x.2.2.1.app x.2.1∧x.2.1.bnd∧x.2.1.size≤t.kids.size) (λx=>(E6 1 (pB b1) 2 (pB b2) 3 (.slice (some ⟨F,0,none⟩) t.kids.len t.kids.len) 17 (.slice a t.kids.len c) 18 (iV (t.kids.len:Int)) 19 (iV (x.1:Int)))) (λx=>X0 w f) (λx=>[⟨b2,zT,29,true⟩,⟨b1,[iV t.op,iV t.num,S t.tx,.slice a t.kids.len c],29,true⟩]) (λx=>[⟨29,4,some ⟨F,0,none⟩,t.kids.len,t.kids.len,x.2.2.2++EV x.2.1.len zT⟩]) (λx=>[]) (λx=>[λw f=>BY w f a x.1 x.2.1,λw f=>Cr w f x.2.2.1 x.2.2.2]) (0,t.kids,.nil,[]) ⟨by simp,C,C,D.2,Nat.le_refl _⟩ lE (λw f d=>d.more (B':=[]) (F':=[λw f=>BY w f a 0 t.kids,λw f=>Cr w f .nil []]) nE (AR.mem ⟨Al.at d.f0,C,tQ⟩) (Au.mem ⟨BY.mono,Cr.mono,tQ⟩) |>.less sR sR (λ_ h=>h) (mR [0,1])) ?_;rintro⟨i,r,K,xs⟩ ⟨Y,G,L,O,hs⟩;dsimp only at Y G L O hs ⊢;refine Aa 6 (λ_=>Ap 20 C C (λQ=>?_) (λQ=>?_));refine Aa 6 (λ_=>?_);have hil:i<t.kids.len:=by have:=dT Q;omega
 obtain⟨t2,r,rfl⟩:=Ty.cases1 r oM;rw[T1.len_cons] at Y;refine kH 0 C ?_;rintro⟨eb,eo,ka,kc⟩ rfl;refine Ae 13 [100,0,0,0] (aI oM<|y2<|λb3=>y<|y<|λ_=>CR C C (eC Nl C C) (λw f d=>Z w f d.vl t2 ka kc (by have:=T1.size_cons t2 r;omega) (T1.bnd_cons.1 O).1 d.f0) (λx=>⟨Al.mono,tQ⟩) ?_);rintro⟨a2,c2⟩ -;refine Aa 1 (aI oM<|λ_=>Kz (λw f d=>Cr.len d.f4) λJ=>?_);rw[G] at J;exact mrs 0 ((xs++tC t2 a2 c2)++EV r.len zT) C C C C CA C C C (by simp only[Nat.zero_add,List.length_cons,List.length_nil,Int.toNat_natCast];omega) (by rw[Nat.zero_add,Int.toNat_natCast,← J,T1.len_cons,EV];exact N9 _ _ _ _ C) C<|Aa 7 (aI ⟨oM,oM⟩<|λ_=>Ce ((i+1,r,K.snoc t2,xs++tC t2 a2 c2)) (show r.len<(t2.cons r).len by rw[T1.len_cons];omega) ⟨show i+1+r.len=t.kids.len by omega,show (K.snoc t2).len=i+1 by rw[Ty.len_snoc,G],show t.kids=(K.snoc t2).app r by rw[L,Ty.snoc_app],(T1.bnd_cons.1 O).2,show r.size≤t.kids.size by have:=T1.size_cons t2 r;omega⟩ lE (λw f d=>⟨_,(d.more (B':=[]) (F':=[λw f=>Cr w f (K.snoc t2) (xs++tC t2 a2 c2)]) nE (AR.mem ⟨Cr.snoc d.f0 d.f4,tQ⟩) (Au.mem ⟨Cr.mono,tQ⟩)).less (List.sublist_cons_self _ _) sR nE (mR [3,0])⟩));refine Aa 3 (λ_=>Df<|Aa 3 (λ_=>?_));obtain rfl:r=.nil:=Ty.len0 (by have:=dF Q;omega);rw[Ty.app_nil] at L;exact bE 0 C C<|Ae 13 [1,1,0] (y<|y<|y<|λ_=>A5 (λw f d=>Ao C (Ab C CA d.k0 C)) (λw f d=>⟨(some ⟨F,0,none⟩,t.kids.len),f,C,tQ,d.exm,⟨L▸Cr.toF d.f1 (by have:=d.b0;simpa[EV,Ty.len] using this) (Nat.le_refl _),tQ⟩⟩))
end Go.Proofs.YtnojaendcldjpaaGreatDoor
namespace Go.SP
def Nd.bnd:Nd→Prop
 |.nil=>True
 |.cons _ _ _ _ _ kids rest=>kids.len≤200000∧kids.bnd∧rest.bnd
def N.bnd(a:N):Prop:=a.kids.len≤200000∧a.kids.bnd
theorem N.bnd_cons{a:N}{r:Nd}(h:a.bnd)(d:r.bnd):(a.cons r).bnd:=⟨h.1,h.2,d⟩
theorem Nd.bnd_app:∀{x y:Nd},x.bnd→y.bnd→(x.app y).bnd
 |.nil,_,_,h=>h
 |.cons _ _ _ _ _ _ _,_,h,d=>⟨h.1,h.2.1,Nd.bnd_app h.2.2 d⟩
def Aq.er(t:Aq):Aq:=⟨t.k,0,0,t.nm,t.tx⟩
def Fo.er:Fo→Fo
 |.nil=>.nil
 |.cons t k r=>.cons t.er k.er r.er
def Nd.er:Nd→Nd
 |.nil=>.nil
 |.cons op _ _ tx nm kids r=>.cons op 0 0 tx nm kids.er r.er
def N.er(a:N):N:=⟨a.op,0,0,a.tx,a.nm,a.kids.er⟩
theorem Fo.app_nil:∀a:Fo,a.app .nil=a
 |.nil=>rfl
 |.cons _ _ r=>by simp only[Fo.app,Fo.app_nil r]
end Go.SP
namespace Go.SP
open Go.SW Go.RowKit
def oC(U:Nat→Prop)(w:World)(a:Option Addr)(i:Nat)(r:Nd):Prop :=
 r=.nil∨∃b off l T,U b∧a=some ⟨b,off,none⟩∧AS w b l T∧Fy U w r (l.drop (off+i*6))
variable {co ln nm:Int}{i:Nat}{U:Nat→Prop}{a:Option Addr}{w':World}
theorem oC.ext{w:World}{r:Nd}(h:oC U w a i r)(D:AW w w'):oC U w' a i r :=
 h.imp id λ⟨b,off,l,T,hu,F,G,J⟩=>⟨b,off,l,T,hu,F,G.ext D,J.ext D⟩
theorem oC.head{w:World}{op:Int}{tx:lU}{kids r:Nd}(h:oC U w a i (.cons op ln co tx nm kids r)):∃b off l T ka kn kc D,U b∧a=some ⟨b,off,none⟩∧AS w b l T ∧
   l.drop (off+i*6)=.int .i64 op::.int .i64 ln::.int .i64 co::S tx::.int .i64 nm::.slice ka kn kc::D∧GO U w ka kn kc kids:=by
 rcases h with h|⟨b,off,l,T,hu,F,G,ka,kn,kc,D,J,K,L⟩
 · cases h
 · exact⟨b,off,l,T,ka,kn,kc,D,hu,F,G,J,K⟩
theorem oC.next{w:World}{op:Int}{tx:lU}{kids r:Nd}(h:oC U w a i (.cons op ln co tx nm kids r)):oC U w a (i+1) r:=by
 rcases h with h|⟨b,off,l,T,hu,D,F,ka,kn,kc,G,J,L,K⟩
 · cases h
 · refine .inr ⟨b,off,l,T,hu,D,F,?_⟩
   have:l.drop (off+(i+1)*6)=G:=by
     rw[show off+(i+1)*6=(off+i*6)+6 by omega,← List.drop_drop,J];rfl
   rw[this];exact K
theorem Nc{p:Nat→Prop}(D:p 0)(h:∀m,p m→p (m+1))(m:Nat):p m:=by
 induction m with
 |zero=>exact D
 |succ m F=>exact h m F
end Go.SP
namespace Go.SW
open Go.RowKit
variable {zl:List Value}{bytes cs k:Nat}{a:Option Addr}{e:TypeId}
theorem lC{P:Program}{σ:Ba}{w:World}{ty T:TypeId}{x y:Operand}{size:Nat}(D:Jy P T=some (e,size,bytes,zl)){b:Option Addr}{c:Nat}
   (F:ev σ x=some (.slice a k c)) (G:ev σ y=some (.slice b 0 cs)) (J:k≤c):AK P σ (.call {callee:=.builtin .append,args:=#[x,y],argTypes:=#[T,T]}) ty w (.slice a k c) w:=by
 unfold Jy at D
 split at D
 · rename_i Y hu
   split at D
   · rename_i i K
     intro Z _ _ _ _ h
     have L:(Builtin.firstCells i.size 0 (.slice b 0 cs)).run P w=.ok #[] w:=by
       cases b with
       |none=>simp[Builtin.firstCells]
       |some q=>simp only[Builtin.firstCells,Nat.zero_mul];exact run_loadCells_list (P:=P) w q [] (λj v O=>by simp at O)
     have W:∀q:Addr,(storeCells q []).run P w=.ok () w:=λq=>by simp[storeCells]
     cases a with
     |none=>simp[execOp,resolve,invoke,builtin,h _ _ F,h _ _ G,Builtin.append_,run_underlying hu,sizeOf,typeInfo,K,Builtin.lenOf,J,L]
     |some q=>simp[execOp,resolve,invoke,builtin,h _ _ F,h _ _ G,Builtin.append_,run_underlying hu,sizeOf,typeInfo,K,Builtin.lenOf,J,L,W]
   · cases D
 · cases D
end Go.SW
namespace Go.SP
open Go.SW Go.RowKit
variable {U:Nat→Prop}{a q':Option Addr}{w':World}
theorem GO.lt{w:World}{n c:Nat}{x:Nd}(h:GO U w a n c x):GO (λb=>U b∧b<w.heap.size) w a n c x:=GO.imp h λ_ hu D=>⟨⟨hu,D⟩,C⟩
theorem GO.grow{w:World}{q:Option Addr}{n c:Nat}{x:Nd}(h:GO U w a n c x)(F:FE q w q' w')(D:∀b,U b→some b≠rb q):GO U w' a n c x :=
 GO.imp h λb hu G=>⟨hu,F.block b G (D b hu)⟩
theorem FE.refl(a:Option Addr)(w:World):FE a w a w:=⟨C,C,C,Nat.le_refl _,λ_ _ _=>C,.inl C⟩
section
variable{P:Program}{n:Nat}{Q:AV}{σ:Ba}{ds:List Deferred}{w w0 w1:World}{ops:Array Oper}{ty T:TypeId}{pos:String}{af:Array Edge}{rest:List Oper}{d:Nat}{x y:Operand}
end
end Go.SP
namespace Go.Proofs.YtnojaendcldjpaaGreatDoor
open Go.SW Go.SP Go.RowKit Go.Proofs.Tryz
theorem Oy(w:wO)(f:Fq)(d:Vl w f)(t:T1)(a:oA)(c:Nat)(D:t.bnd)(F:Al w f t.kids a c) :
  AX prog 130 #[tV t a c] w (AU (α:=oA×Nat) (λx=>tV t x.1 x.2) (λ_=>True) (λx=>[λw f=>Al w f t.kids x.1 x.2]) w f) :=
 Nc (p:=OwnF prog 130) (λw f d t a c h=>by omega) (λm G w f d t a c J K L=>Zn m G w f d t a c J K L) (t.kids.size+1) w f d t a c (Nat.lt_succ_self _) D F
theorem UJ(w:wO)(f:Fq)(Q:Vl w f)(k:Ty)(a:oA)(c:Nat)(Z:k.len≤200000)(O:Al w f k a c) :
  AX prog 32 #[.slice a k.len c] w (AU (α:=oA×Nat) (λx=>.slice x.1 k.len x.2) (λ_=>True) (λx=>[λw f=>Al w f k x.1 x.2]) w f):=by
 refine Ed [λw f=>Al w f k a c] func32 C C C (Be Q ⟨O,tQ⟩ ⟨Al.mono,tQ⟩)<|Aa 12 (λ_=>Ap 4 C C (λF=>?_) (λF=>?_));obtain rfl:a=none:=by cases a with|none=>rfl|some q=>cases F
 obtain rfl:k=.nil:=by rcases O.2 with h|⟨_,_,h,_⟩;exact h;cases h
 exact Aa 8 (λ_=>A5 (Cb C C) (λw f d=>⟨(none,0),f,C,tQ,d.exm,⟨Al.nil _ _ _ _,tQ⟩⟩));refine Aa 5 (λ_=>mb0 C C Sv λG=>Aa 1 (λ_=>?_));rcases Nat.eq_zero_or_pos k.len with D|D
 obtain rfl:=Ty.len0 D;exact BN C C (λw f d=>lC I1 C C (Nat.le_refl _))<|Aa 4 (λ_=>A5 (Cb C C) (λw f d=>⟨(some ⟨G,0,none⟩,0),f,C,tQ,d.exm,⟨Al.nil _ _ _ _,tQ⟩⟩));refine Hh (α:=Nat×Nat×lV) (λx=>a=some ⟨x.1,x.2.1,none⟩∧(∀v∈x.2.2,v.oneCell'=true)∧x.2.2.length=k.len*4) (λx=>[⟨x.1,x.2.1,x.2.2⟩]) (λx=>[λw f=>Cr w f k x.2.2]) (λw f d=>let ⟨x,F,U,W⟩:=Al.cells (k:=k) (a:=a) (c:=c) d.f0 D;⟨x,F,(oE U),AR.mem ⟨W,tQ⟩⟩) (λx=>Au.mem ⟨Cr.mono,tQ⟩) ?_;rintro⟨eb,eo,xs⟩ ⟨rfl,J,K⟩;exact nK 0 0 C C I1 C C C C C C K J D (λ_ _=>C) oM oM λa2 c2=>Aa 4 (λ_=>A5 (Cb C C) (λw f d=>let ⟨f2,L,Y⟩:=R9 d d.f0 D;⟨(a2,c2),f2,by simp only[Nat.zero_add],tQ,L.exm,⟨Y,tQ⟩⟩))
theorem Dq(w:wO)(f:Fq)(h:Vl w f)(tx:lU)(k:Ty)(a:oA)(c:Nat)(D:k.len≤200000)(F:Al w f k a c) :
  AX prog 14 #[S tx,.slice a k.len c] w (AU (α:=oA×Nat) (λx=>tV (.con tx k) x.1 x.2) (λ_=>True) (λx=>[λw f=>Al w f k x.1 x.2]) w f):=by
 refine Ed [λw f=>Al w f k a c] func14 C C C (Be h ⟨F,tQ⟩ ⟨Al.mono,tQ⟩)<|Aa 9 (λb1=>λ_=>CR C C (eC cD C C) (λw f d=>UJ w f d.vl k a c D d.f0) (λx=>⟨Al.mono,tQ⟩) ?_);rintro⟨a2,c2⟩ -;exact Ae 5 [0] (y<|λ_=>A5 (λw f d=>Ao C (Ab C CA d.k0 C)) (λw f d=>⟨(a2,c2),f,C,tQ,d.exm,⟨d.f0,tQ⟩⟩))
theorem Fk(w:wO)(f:Fq)(hv:Vl w f)(sb mb:Nat)(s:BP)(fr pr:Int)(hS:Bz 224 sb mb s fr pr w f)(hw:I0 s)(t:T1)(a:oA)(c:Nat)(hb:t.bnd)(hT:Al w f t.kids a c) :
  AX prog 157 #[pB sb,tV t a c] w (AU (α:=oA×Nat) (λx=>tV (Am s t) x.1 x.2) (λ_=>True) (λx=>[λw f=>Al w f (Am s t).kids x.1 x.2]) w f):=by
 obtain⟨F,es,G,U⟩:=hS;have Q:=FJ.dis U hw;have L:=F.lt;have O:=G.lt;refine Ed [λw f=>Al w f t.kids a c] func157 C C C (Be hv ⟨hT,tQ⟩ ⟨Al.mono,tQ⟩)<|Aa 8 (λb1=>λb2=>λ_=>?_);refine DK (α:=T1×oA×Nat) (λx=>Et s x.1) (λx=>Am s t=Am s x.1∧x.1.bnd) (λx=>(E3 0 (pB sb) 3 (pB b1) 4 (pB b2))) (λx=>X0 w f) (λx=>[⟨b2,zT,29,true⟩,⟨b1,tC x.1 x.2.1 x.2.2,29,true⟩]) (λx=>[]) (λx=>[]) (λx=>[λw f=>Al w f x.1.kids x.2.1 x.2.2]) (t,a,c) ⟨C,hb⟩ lE (λw f J=>J) ?_;rintro⟨u,Z,uc⟩ ⟨hh,hub⟩;dsimp only at hh hub ⊢;refine Ae 8 [1] (y<|λ_=>Ap 9 C C (λh1=>?_) (λh1=>?_));refine Aa 5 (λ_=>?_);obtain⟨n,rfl⟩:=Eo h1
 cases hl:CP s n with
 |none =>
  have W:=(FJ.look U n).1 hl;refine RL (λw=>AS w sb [.map (some mb),iV fr,iV pr] 224∧CW Ez w mb es) (λw2 f2 _ d=>⟨(d.stp.block sb L (λh=>h)).trans F,G.heap (d.stp.block mb O (λh=>h))⟩) [0,1] Aj (rd [0,1,2,3,4,5,6,7,8,9] (.br 10 (.br 11 (.rd 12 .fin) .fin) .fin)) C kR kR kR (λ_ _ _ _ _ h=>h)<|Bf 3 (λ_=>Iz C C C (λw Y=>Ai C VB Y.2.2.1 C)<|By 2 [1] (y<|λ_=>Iz C C C (λw Y=>tT (K:=Ez) (a:=n) C C Ue OY pF Y.2.2.2 Q W)<|Bf 3 (λ_=>Ak C<|Aa 2 (λb3=>λ_=>Bv [1,2] (λw2 f2 _ d=>⟨(d.stp.block sb L (λh=>h)).trans F,G.heap (d.stp.block mb O (λh=>h))⟩) C (λ_ h=>h)<|Ak C ?_))));refine Ae 2 [0] (y<|λ_=>Bv [1,2] (λw2 f2 _ d=>⟨(d.stp.block sb L (λh=>h)).trans F,G.heap (d.stp.block mb O (λh=>h))⟩) C (λ_ h=>h)<|Bf 1 (λ_=>BG<|Aa 12 (λ_=>Df<|Ae 9 [2,1] (y<|y<|λ_=>?_))));have D:Am s t=.var n:=by rw[hh,NX hl]
  exact A5 (λw f J=>Ao C (Ab C CA J.k1 C)) (λw f J=>⟨(Z,uc),f,(by show _=tV (Am s t) Z uc;rw[D]),tQ,J.exm,⟨by show Al w f (Am s t).kids Z uc;rw[D];exact J.f0,tQ⟩⟩)
 |some t2 =>
  refine Hh (α:=oA×Nat) (λx=>Gu es n=some (tV t2 x.1 x.2)) (λx=>[]) (λx=>[λw f=>Al w f t2.kids x.1 x.2]) (λw f J=>let ⟨a2,c2,h1,h2⟩:=(FJ.look U n).2 t2 hl;⟨(a2,c2),h1,nE,AR.mem ⟨Al.mono _ _ _ _ h2 J.ent,tQ⟩⟩) (λx=>Au.mem ⟨Al.mono,tQ⟩) ?_;rintro⟨a2,c2⟩ W;refine RL (λw=>AS w sb [.map (some mb),iV fr,iV pr] 224∧CW Ez w mb es) (λw2 f2 _ d=>⟨(d.stp.block sb L (λh=>h)).trans F,G.heap (d.stp.block mb O (λh=>h))⟩) [0,1] Aj (rd [0,1,2,3,4,5,6,7,8,9] (.br 10 (.br 11 (.rd 12 .fin) .fin) .fin)) C kR kR kR (λ_ _ _ _ _ h=>h)<|Bf 3 (λ_=>Iz C C C (λw Y=>Ai C VB Y.2.2.1 C)<|By 2 [1] (y<|λ_=>Iz C C C (λw Y=>uG (K:=Ez) (a:=n) C C Ue OY pF Y.2.2.2 Q W)<|Bf 3 (λ_=>Ak C<|Aa 2 (λb3=>λ_=>Bv [1,2] (λw2 f2 _ d=>⟨(d.stp.block sb L (λh=>h)).trans F,G.heap (d.stp.block mb O (λh=>h))⟩) C (λ_ h=>h)<|Ak C ?_))));exact Ae 2 [0] (y<|λ_=>Bv [1,2] (λw2 f2 _ d=>⟨(d.stp.block sb L (λh=>h)).trans F,G.heap (d.stp.block mb O (λh=>h))⟩) C (λ_ h=>h)<|Bf 1 (λ_=>BG<|Ae 16 [0,2] (y<|y<|λ_=>Ce ((t2,a2,c2)) (jS hw hl) ⟨by rw[hh,U4 hw hl],Ob hw hl⟩ lE (λw f J=>⟨_,J.less (List.sublist_cons_self _ _) sR nE (mR [0])⟩))))
 refine Aa 3 (λ_=>Df<|Ae 9 [1,0] (y<|y<|λ_=>?_));obtain⟨tx,k,rfl⟩:=Fe h1;have D:Am s t=.con tx k:=by rw[hh,Gr]
 exact A5 (λw f J=>Ao C (Ab C CA J.k0 C)) (λw f J=>⟨(Z,uc),f,(by show _=tV (Am s t) Z uc;rw[D]),tQ,J.exm,⟨by show Al w f (Am s t).kids Z uc;rw[D];exact J.f0,tQ⟩⟩)
theorem Td(w:wO)(f:Fq)(D:Vl w f)(d:Nat)(n:Int)(J:0≤n∧n≤100000)(F:JH d n w f)(G:f d=0)(t:T1)(a:oA)(c:Nat) :
  AX prog 166 #[tV t a c,pB d] w (EF (α:=Unit) (λ_=>.bool (decide (n+1≤1000))) (λ_=>True) (λb=>b=d) (λ_=>JH d (n+1)) (λ_=>[]) w f):=by
 exact Gb (X:=⟨λb=>b=d,λ_=>False,λ_ _=>True,w,f⟩) (H:=[⟨d,[iV n],3,false⟩]) (R:=[]) (B:=[]) (Fs:=[]) (f:=f) func166 C C C (memH D F G tQ tQ)<|Ae 21 [1,1,1] (λb1=>y<|aI ⟨oM,oM⟩<|y<|y<|λ_=>A5 (Cb C C) (λw f h=>⟨(),f,C,tQ,h.exm,h.blk _ tH,tQ⟩))
theorem U1(k:Nat)(ih:∀j,j<k→VisF prog 165 224 166 j)(w:wO)(f:Fq)(hv:Vl w f)(sb mb:Nat)(s:BP)(fr pr:Int)(F:Nat)(hS:Bz 224 sb mb s fr pr w f)(hw:I0 s)(Q:sb≠F)(U:mb≠F)(hf:f F=0)(hC:JH F (1000-(k:Int)) w f)(hk:k≤1000)(t:T1)(a:oA)(c:Nat)(hb:t.bnd)(hT:Al w f t.kids a c) :
  AX prog 165 #[pB sb,tV t a c,.func (.func 166) #[] #[pB F]] w (EF (α:=Int) (λ_=>.bool (Bu s k t.one).isSome) (λx=>∀j,Bu s k t.one=some j→x=1000-(j:Int)) (λb=>b=F) (λx=>JH F x) (λ_=>[]) w f):=by
 have hkb:=(C3 hw hb).1;refine Gb (X:=⟨λb=>b=F,λb=>b=F,JH F (1000-(k:Int)),w,f⟩) (H:=[]) (R:=[]) (B:=[]) (Fs:=[λw f=>Al w f t.kids a c]) (f:=f) func165 C C C (JF (M:=λb=>b=F) (I:=JH F (1000-(k:Int))) hv hC (JH.stab C) (λb hb=>by cases hb;exact⟨AS.lt hC,hf⟩) ⟨hT,tQ⟩ ⟨Al.mono,tQ⟩)<|Ae 10 [0] (λb1=>y<|λ_=>CR C C (eC HK C C) (λw f d=>Fk w f d.vl sb mb s fr pr (Bz.keep hS d.exm d.ent Q U) hw t a c hb d.f0) (λx=>⟨Al.mono,tQ⟩) ?_);rintro⟨W,hc⟩ -;refine Ae 8 [0,0] (y<|y<|λ_=>CI (XX:=λ_ _=>False) C C (λ_=>Uk (caps:=[pB F]) lT C C) (λw f d=>(Td w f d.vl F (1000-(k:Int)) oM d.res (d.mi F C).2.1 (Am s t) W hc).retP) (λ_=>JH.stab C) (λ_=>trivial) (λ_ _ _ _ _ h=>h.elim) ?_);rintro⟨⟩ -;refine Aa 3 (λ_=>?_)
 ·
  refine Ap 15 C C (λY=>?_) (λY=>?_);replace Y:=B5 Y;refine Aa 8 (λ_=>?_);obtain rfl:k=0:=by have:=dF Y;omega
  have D:=KH s t
  rotate_left
  replace Y:=B3 Y;refine Aa 5 (λ_=>?_);obtain⟨k2,rfl⟩:∃k2,k=k2+1:=⟨k-1,by have:=dT Y;omega⟩;refine Ae 6 [0] (y<|λ_=>Ap 18 C C (λh2=>?_) (λh2=>?_));refine Ae 10 [0] (y<|λ_=>?_);refine DK (α:=Nat×Ty×Nat) (λx=>x.2.1.len) (λx=>x.1+x.2.1.len=(Am s t).kids.len∧Bu s k2 (Am s t).kids=Bu s x.2.2 x.2.1∧x.2.2≤k2∧x.2.1.bnd) (λx=>(E6 0 (pB sb) 2 (.func (.func 166) #[] #[pB F]) 4 (pB b1) 20 (.slice W (Am s t).kids.len hc) 21 (iV ((Am s t).kids.len:Int)) 22 (iV (x.1:Int)))) (λx=>⟨λb=>b=F,λb=>b=F,JH F (1000-(x.2.2:Int)),w,f⟩) (λx=>[⟨b1,tC (Am s t) W hc,29,true⟩]) (λx=>[]) (λx=>[]) (λx=>[λw f=>BY w f W x.1 x.2.1]) (0,(Am s t).kids,k2) ⟨by simp,C,Nat.le_refl _,(C3 hw hb).2⟩ lE (λw f d=>(by have K:=d.more (B':=[]) (F':=[λw f=>BY w f W 0 (Am s t).kids]) nE (AR.mem ⟨Al.at d.f0,tQ⟩) (Au.mem ⟨BY.mono,tQ⟩) |>.less (H':=[⟨b1,tC (Am s t) W hc,29,true⟩]) (R':=[]) (B':=[]) (F':=[λw f=>BY w f W 0 (Am s t).kids]) sR sR nE (mR [0]);rw[show (1000-((k2+1:Nat):Int))+1=1000-(k2:Int) by omega] at K;exact K)) ?_;rintro⟨i,r,j⟩ ⟨hi,J,hjk,Z⟩;dsimp only at hi J hjk Z ⊢;refine Aa 6 (λ_=>Ap 23 C C (λh3=>?_) (λh3=>?_));refine Aa 6 (λ_=>?_);have hil:i<(Am s t).kids.len:=by have:=dT h3;omega
  obtain⟨t2,r,rfl⟩:=Ty.cases1 r oM;rw[T1.len_cons] at hi;refine kH 0 C ?_;rintro⟨eb,eo,ka,kc⟩ rfl;refine Ae 12 [100,0,0,0] (aI oM<|y2<|λb2=>y<|y<|λ_=>CI (XX:=λ_ _=>False) C C (eC MR C C) (λw f d=>(ih j oM w f d.vl sb mb s fr pr F (Bz.keep hS d.exm d.ent Q U) hw Q U (d.mi F C).2.1 d.res oM t2 ka kc (T1.bnd_cons.1 Z).1 d.f0).retP) (λ_=>JH.stab C) (λ_=>trivial) (λ_ _ _ _ _ h=>h.elim) ?_);rintro cx hcx;refine Aa 3 (λ_=>Ap 30 C C (λO=>?_) (λO=>?_));replace O:=B5 O;have L:Bu s j t2.one=none:=by cases hx:Bu s j t2.one with|none=>rfl|some q=>rw[hx] at O;cases O
  refine Aa 9 (λ_=>Hf<|Aa 2 (λ_=>?_));have G:=J3 s k2 t;have D:Bu s (k2+1) t.one=none:=by rw[G,J,IZ,L];rfl
  rotate_left
  replace O:=B3 O;obtain⟨j2,L⟩:=Option.isSome_iff_exists.1 O;exact Aa 8 (aI ⟨oM,oM⟩<|λ_=>Ce ((i+1,r,j2)) (show r.len<(t2.cons r).len by rw[T1.len_cons];omega) ⟨show i+1+r.len=(Am s t).kids.len by omega,show Bu s k2 (Am s t).kids=Bu s j2 r by rw[J,IZ,L];rfl,show j2≤k2 by have:=Fv s j t2.one j2 L;omega,(T1.bnd_cons.1 Z).2⟩ lE (λw f d=>⟨_,by have K:=d.less (H':=[⟨b1,tC (Am s t) (some ⟨eb,eo,none⟩) hc,29,true⟩]) (R':=[]) (B':=[]) (F':=[λw f=>BY w f (some ⟨eb,eo,none⟩) (i+1) r]) (List.sublist_cons_self _ _) sR nE (mR [1]);rw[hcx j2 L] at K;exact K⟩));refine Aa 3 (λ_=>Df<|Aa 8 (λ_=>?_));have G:=J3 s k2 t;obtain rfl:r=.nil:=Ty.len0 (by have:=dF h3;omega);have D:Bu s (k2+1) t.one=some j:=by rw[G,J];cases j <;> rfl
  exact A5 (Cb C C) (λw f d=>⟨_,f,(by rw[D];rfl),(λq h=>by rw[D] at h;cases h;rfl),d.exm,d.res,tQ⟩);refine Aa 9 (λ_=>?_);have G:=J3 s k2 t;obtain⟨n,hv2⟩:=Eo (t:=Am s t) (by have:=h2;simpa using this);have D:Bu s (k2+1) t.one=some k2:=by rw[G,hv2];cases k2 <;> rfl
  exact A5 (Cb C C) (λw f d=>⟨_,f,(by rw[D];rfl),(λq h=>by rw[D] at h;cases h;omega),d.exm,d.res,tQ⟩)
  all_goals
   exact A5 (Cb C C) (λw f d=>⟨_,f,(by rw[D];rfl),(λj h=>by rw[D] at h;cases h),d.exm,d.res,tQ⟩)

theorem Uo:∀k,VisF prog 165 224 166 k:=λk=>Nat.strongRecOn k λk D w f F sb mb s fr pr G J hw d h K L O t a c Q U=>U1 k D w f F sb mb s fr pr G J hw d h K L O t a c Q U
theorem OJ(w:wO)(f:Fq)(L:Vl w f)(sb mb:Nat)(s:BP)(fr pr:Int)(F:Bz 224 sb mb s fr pr w f)(hw:I0 s)(t:T1)(a:oA)(c:Nat)(G:t.bnd)(O:Al w f t.kids a c) :
  AX prog 141 #[pB sb,tV t a c] w (AU (α:=Unit) (λ_=>.bool (Hl s t)) (λ_=>True) (λ_=>[]) w f):=by
 have J:=F.1.lt;have K:mb<w.heap.size:=by obtain⟨_,es,h,_⟩:=F;exact h.lt
 refine Ed [λw f=>Al w f t.kids a c] func141 C C C (Be L ⟨O,tQ⟩ ⟨Al.mono,tQ⟩)<|Ae 16 [0,1] (λb1=>λb2=>y<|y<|λ_=>BN C C (λw f d=>Rk C)<|uH 0 C C<|Kz (λw f d=>(⟨λe=>(d.mi _ (.inr C)).2.2.elim (λh=>absurd J (by rw[e];exact Nat.not_lt.2 h)) (λh=>h),λe=>(d.mi _ (.inr C)).2.2.elim (λh=>absurd K (by rw[e];exact Nat.not_lt.2 h)) (λh=>h)⟩:sb≠b2∧mb≠b2)) λD=>CI (α:=Int) (val:=λ_=>.bool (Bu s 1000 t.one).isSome) (q:=λ_=>True) (I':=λx w f=>True∧JH b2 x w f) (F':=λ_=>[]) (XX:=λ_ _=>False) C C (eC MR C C) (λw f d=>((Uo 1000 w f d.vl sb mb s fr pr b2 (Bz.keep F d.exm d.ent (λh=>h) (λh=>h)) hw D.1 D.2 (d.mi _ (.inr C)).2.1 d.res.2 (Nat.le_refl _) t a c G d.f0).mono λv w2 ⟨x,f2,Q,h2,U,W,Y⟩=>⟨x,f2,Q,tQ,U.mono (λb G=>.inr G),⟨tQ,W⟩,Y⟩).retP) (λ_=>(λ_ _ _ _ h Z hm=>⟨tQ,JH.stab (MI:=λb=>False∨b=b2) (.inr C) _ _ _ _ h.2 Z hm⟩)) (λ_=>trivial) (λ_ _ _ _ _ h=>h.elim) ?_);rintro cx -;exact Aa 4 (λ_=>A5 (Cb C C) (λw f d=>⟨(),f,(by rw[Hl,Fa]),tQ,d.exm,tQ⟩))
theorem Uj(w:wO)(f:Fq)(K:Vl w f)(D:Nat)(x:Int)(J:AS w D [iV x] 3)(t:T1)(a:oA)(c:Nat) :
  AX prog 183 #[tV t a c,pB D] w (AU (α:=Unit) (λ_=>.bool (Xn x t)) (λ_=>True) (λ_=>[]) w f):=by
 have F:=J.lt;refine Ed [] func183 C C C (Be K tQ tQ)<|Ae 12 [0] (λb1=>y<|λ_=>Ap 7 C C (λG=>?_) (λG=>?_));refine Aa 9 (λ_=>?_)
 cases t with
 |var m=>cases G
 |con tx k=>exact A5 (Cb C C) (λw f d=>⟨(),f,C,tQ,d.exm,tQ⟩)
 refine Ae 2 [0] (y<|λ_=>BN C C (λw f d=>Ai C IL ((d.stp.block D F (λh=>h)).trans J) C)<|Aa 6 (λ_=>?_))
 cases t with
 |var m=>exact A5 (Cb C C) (λw f d=>⟨(),f,C,tQ,d.exm,tQ⟩)
 |con tx k=>cases G
theorem RY(k:Nat)(ih:∀j,j<k→yZ prog 165 224 183 j)(w:wO)(f:Fq)(hv:Vl w f)(sb mb:Nat)(s:BP)(fr pr:Int)(L:Nat)(x:Int)(hS:Bz 224 sb mb s fr pr w f)(hw:I0 s)(hB:AS w L [iV x] 3)(t:T1)(a:oA)(c jj:Nat)(hb:t.bnd)(hT:Al w f t.kids a c)(F:Bu s k t.one=some jj) :
  AX prog 165 #[pB sb,tV t a c,.func (.func 183) #[] #[pB L]] w (AU (α:=Unit) (λ_=>.bool (CQ s x k t.one)) (λ_=>True) (λ_=>[]) w f):=by
 have hkb:=(C3 hw hb).1;have Y:=hB.lt;obtain⟨k2,rfl⟩:∃q,k=q+1:=by cases k with|zero=>rw[KH] at F;cases F|succ q=>exact⟨q,C⟩
 have Z:Bu s k2 (Am s t).kids=some jj:=by rw[← J3];exact F
 refine Ed [λw f=>Al w f t.kids a c] func165 C C C (Be hv ⟨hT,tQ⟩ ⟨Al.mono,tQ⟩)<|Ae 10 [0] (λb1=>y<|λ_=>CR C C (eC HK C C) (λw f d=>Fk w f d.vl sb mb s fr pr (Bz.keep hS d.exm d.ent (λh=>h) (λh=>h)) hw t a c hb d.f0) (λx=>⟨Al.mono,tQ⟩) ?_);rintro⟨Q,hc⟩ -;refine Ae 8 [0,0] (y<|y<|λ_=>CR C C (λ_=>Uk (caps:=[pB L]) jH C C) (λw f d=>Uj w f d.vl L x ((d.stp.block L Y (λh=>h)).trans hB) (Am s t) Q hc) (λx=>trivial) ?_);rintro⟨⟩ -;refine Aa 3 (λ_=>?_)
 ·
  refine Ap 15 C C (λO=>?_) (λO=>?_);replace O:=B5 O;refine Aa 8 (λ_=>?_);have D:CQ s x (k2+1) t.one=false:=by rw[Jg,O];rfl
  rotate_left
  replace O:=B3 O;refine Ae 11 [0] (y<|λ_=>Ap 18 C C (λh2=>?_) (λh2=>?_));refine Ae 10 [0] (y<|λ_=>?_);refine DK (α:=Nat×Ty×Nat) (λy=>y.2.1.len) (λy=>y.1+y.2.1.len=(Am s t).kids.len∧Bu s k2 (Am s t).kids=Bu s y.2.2 y.2.1∧y.2.2≤k2∧y.2.1.bnd∧CQ s x k2 (Am s t).kids=CQ s x y.2.2 y.2.1) (λy=>(E6 0 (pB sb) 2 (.func (.func 183) #[] #[pB L]) 4 (pB b1) 20 (.slice Q (Am s t).kids.len hc) 21 (iV ((Am s t).kids.len:Int)) 22 (iV (y.1:Int)))) (λy=>X0 w f) (λy=>[⟨b1,tC (Am s t) Q hc,29,true⟩]) (λy=>[]) (λy=>[]) (λy=>[λw f=>BY w f Q y.1 y.2.1]) (0,(Am s t).kids,k2) ⟨by simp,C,Nat.le_refl _,(C3 hw hb).2,C⟩ lE (λw f d=>d.more (B':=[]) (F':=[λw f=>BY w f Q 0 (Am s t).kids]) nE (AR.mem ⟨Al.at d.f0,tQ⟩) (Au.mem ⟨BY.mono,tQ⟩) |>.less (H':=[⟨b1,tC (Am s t) Q hc,29,true⟩]) (R':=[]) (B':=[]) (F':=[λw f=>BY w f Q 0 (Am s t).kids]) sR sR nE (mR [0])) ?_;rintro⟨i,r,j⟩ ⟨hi,G,hjk,U,K⟩;dsimp only at hi G hjk U K ⊢;refine Aa 6 (λ_=>Ap 23 C C (λh3=>?_) (λh3=>?_));refine Aa 6 (λ_=>?_);have hil:i<(Am s t).kids.len:=by have:=dT h3;omega
  obtain⟨t2,r,rfl⟩:=Ty.cases1 r oM;rw[T1.len_cons] at hi;refine kH 0 C ?_;rintro⟨eb,eo,ka,kc⟩ rfl;refine Ae 12 [100,0,0,0] (aI oM<|y2<|λb2=>y<|y<|λ_=>?_);obtain⟨j2,J⟩:∃q,Bu s j t2.one=some q:=by cases hx:Bu s j t2.one with|some q=>exact⟨q,C⟩|none=>rw[G,IZ,hx] at Z;cases Z
  refine BO C C (eC MR C C) (λw f d=>ih j oM w f d.vl sb mb s fr pr L x (Bz.keep hS d.exm d.ent (λh=>h) (λh=>h)) hw ((d.stp.block L Y (λh=>h)).trans hB) t2 ka kc j2 (T1.bnd_cons.1 U).1 d.f0 J)<|Aa 3 (λ_=>Ap 30 C C (λW=>?_) (λW=>?_));replace W:=B5 W;refine Aa 9 (λ_=>Hf<|Aa 2 (λ_=>?_));have D:CQ s x (k2+1) t.one=false:=by rw[Jg,K,PJ J,W];simp
  rotate_left
  replace W:=B3 W;exact Aa 8 (aI ⟨oM,oM⟩<|λ_=>Ce ((i+1,r,j2)) (show r.len<(t2.cons r).len by rw[T1.len_cons];omega) ⟨show i+1+r.len=(Am s t).kids.len by omega,show Bu s k2 (Am s t).kids=Bu s j2 r by rw[G,IZ,J];rfl,show j2≤k2 by have:=Fv s j t2.one j2 J;omega,(T1.bnd_cons.1 U).2,show CQ s x k2 (Am s t).kids=CQ s x j2 r by rw[K,PJ J,W];rfl⟩ lE (λw f d=>⟨_,d.less (H':=[⟨b1,tC (Am s t) (some ⟨eb,eo,none⟩) hc,29,true⟩]) (R':=[]) (B':=[]) (F':=[λw f=>BY w f (some ⟨eb,eo,none⟩) (i+1) r]) (List.sublist_cons_self _ _) sR nE (mR [1])⟩));refine Aa 3 (λ_=>Df<|Aa 8 (λ_=>?_));obtain rfl:r=.nil:=Ty.len0 (by have:=dF h3;omega);have D:CQ s x (k2+1) t.one=true:=by rw[Jg,O,K];cases j <;> rfl
  rotate_left
  refine Aa 9 (λ_=>?_);obtain⟨n,hv2⟩:=Eo (t:=Am s t) (by have:=h2;simpa using this);have D:CQ s x (k2+1) t.one=true:=by rw[Jg,O,hv2];cases k2 <;> rfl
  all_goals
   exact A5 (Cb C C) (λw f d=>⟨(),f,(by rw[D]),tQ,d.exm,tQ⟩)

theorem TP:∀k,yZ prog 165 224 183 k:=λk=>Nat.strongRecOn k λk d w f h sb mb s fr pr D x F hw G t a c j J K L=>RY k d w f h sb mb s fr pr D x F hw G t a c j J K L
theorem LA(w:wO)(f:Fq)(Y:Vl w f)(sb mb:Nat)(s:BP)(fr pr:Int)(Z:Bz 224 sb mb s fr pr w f)(hf:f sb=0∧f mb=0)(L:sb≠mb)(hw:I0 s)(n:Int)(O:CP s n=none)(t:T1)(a:oA)(c:Nat)(U:t.bnd)(hT:Al w f t.kids a c) :
  AX prog 158 #[pB sb,iV n,tV t a c] w (EF (α:=Unit) (λ_=>iV (JQ s n t).1) (λ_=>True) (MD sb mb) (λ_=>Bz 224 sb mb (JQ s n t).2 fr pr) (λ_=>[]) w f):=by
 refine Gb (X:=XS 224 sb mb s fr pr w f) (H:=[]) (R:=[]) (B:=[]) (Fs:=[λw f=>Al w f t.kids a c]) (f:=f) func158 C C C (jN Y Z hf ⟨hT,tQ⟩ ⟨Al.mono,tQ⟩)<|Ae 12 [0] (λb1=>λb2=>y<|λ_=>BO C C (eC Wk C C) (λw f d=>OJ w f d.vl sb mb s fr pr d.res hw t a c U d.f0)<|Aa 3 (λ_=>?_))
 ·
  refine Ap 10 C C (λD=>?_) (λD=>?_);replace D:=B5 D;refine Aa 8 (λ_=>?_);have J:=Xs (n:=n) D
  rotate_left
  replace D:=B3 D;refine Ae 8 [0] (y<|λ_=>BN C C (λw f d=>Rk C) ?_);obtain⟨j,hj⟩:∃j,Bu s 1000 t.one=some j:=by have W:=D;rw[Hl,Fa] at W;exact Option.isSome_iff_exists.1 W
  refine BO C C (eC MR C C) (λw f d=>TP 1000 w f d.vl sb mb s fr pr b1 n d.res hw d.k1 t a c j U d.f0 hj)<|Aa 3 (λ_=>Ap 15 C C (λF=>?_) (λF=>?_));replace F:=B5 F;refine Aa 8 (λ_=>?_);have J:=cQ D F
  rotate_left
  replace F:=B3 F;refine Aa 4 (λ_=>mxi (mF 224 sb mb s fr pr) (λw f h=>let ⟨D,es,F,h3⟩:=h;⟨es,D,F,h3⟩) (λ_=>mF.stab (.inl C) (.inr C)) ?_);intro es;refine Kz (λw f d=>(⟨FJ.dis d.res.2.2 hw,(FJ.look d.res.2.2 n).1 O⟩:M5 es∧Gu es n=none)) λG=>RL (λw=>AS w sb [.map (some mb),iV fr,iV pr] 224) (λw f h _=>h.1) [0,1] Aj (rd [0,1,2,3,4,5] (.br 6 .fin .fin)) C kR kR kR (λ_ _ _ _ _ h=>h)<|Bf 3 (λ_=>Iz C C C (λw hK=>Ai C VB hK.2.2 C)<|By 2 [1,0] (y<|y<|λ_=>Ak C<|yJ (K:=Ez) (a:=n) (l:=es) (I':=Bz 224 sb mb ((n,t)::s) fr pr) C C C C Ue OY (.inr C) G.1 G.2 (λw f h=>h.2.1) (λw f w2 h d Q hm=>⟨(Q.block sb L).trans h.1,_,hm,a,c,es,C,Al.mono _ _ _ _ d.f0 (Q.fle (d.mi mb (.inr C)).2.1),FJ.mono (Q.fle (d.mi mb (.inr C)).2.1) s es h.2.2⟩) (Bz.stab (.inl C) (.inr C))<|Aa 1 (λ_=>Bv [0,1] (λw f h _=>h.1) C (λ_ h=>h)<|BG ?_)));refine Aa 7 (λ_=>?_);have J:=dD D F
  all_goals
   exact A5 (Cb C C) (λw f d=>⟨(),f,(by rw[J]),tQ,d.exm,(by rw[J];exact d.res),tQ⟩)

theorem O1(w:wO)(f:Fq)(G:Vl w f)(sb mb:Nat)(s:BP)(fr pr:Int)(J:Bz 224 sb mb s fr pr w f)(K:f sb=0∧f mb=0)(D:sb≠mb)  (L:0≤fr∧fr<1000000000000) :
  AX prog 107 #[pB sb] w (EF (α:=Unit) (λ_=>tV (.var (fr+1)) none 0) (λ_=>True) (MD sb mb) (λ_=>Bz 224 sb mb s (fr+1) pr) (λ_=>[]) w f):=by
 exact Gb (X:=XS 224 sb mb s fr pr w f) (H:=[]) (R:=[]) (B:=[]) (Fs:=[]) (f:=f) func107 C C C (jN G J K tQ tQ)<|Aa 20 (λb1=>λ_=>BN C C (λw f d=>Ai C IL d.res.1 C)<|Aa 3 (aI ⟨oM,oM⟩<|λ_=>ZZ (b:=sb) (I':=Bz 224 sb mb s (fr+1) pr) C C C C IL C C C (.inl C) (λw f h=>h.1) (λw f W h d F O=>⟨O,let ⟨_,es,Q,U⟩:=h;⟨es,Q.heap (F.block mb (λe=>D e.symm)),FJ.mono (F.fle (d.mi sb (.inl C)).2.1) s es U⟩⟩) (Bz.stab (.inl C) (.inr C))<|Aa 7 (λ_=>BN C C (λw f d=>Ai C IL d.res.1 C)<|BO C C (eC IS C C) (λw f d=>F7 w f d.vl (fr+1))<|Ae 4 [0] (y<|λ_=>A5 (λw f d=>Ao C (Ab C CA d.k0 C)) (λw f d=>⟨(),f,C,tQ,d.exm,d.res,tQ⟩)))))
theorem Yi(k:Nat)(ih:∀j,j<k→qA prog 131 224 j)(w:wO)(f:Fq)(hv:Vl w f)(sb mb:Nat)(s:BP)(fr:Int)(hS:Bz 224 sb mb s fr (10000-(k:Int)) w f)(hf:f sb=0∧f mb=0)(hne:sb≠mb)(hw:I0 s)(hk:k≤10000)(t u:T1)(a:oA)(c:Nat)(a2:oA)(c2:Nat)(W:t.bnd)(Z:u.bnd)(hT:Al w f t.kids a c)(hU:Al w f u.kids a2 c2) :
  AX prog 131 #[pB sb,tV t a c,tV u a2 c2] w (EF (α:=Int×BP×Int) (λx=>iV x.1) (λx=>(∀z,Gt k s t.one u.one=.ok z→x.1=0∧x.2.1=z.2∧x.2.2=10000-(z.1:Int)∧I0 z.2)∧∀e,Gt k s t.one u.one=.error e→x.1=e∧e≠0) (MD sb mb) (λx=>Bz 224 sb mb x.2.1 fr x.2.2) (λ_=>[]) w f):=by
 have hkt:=(C3 hw W).1;have hku:=(C3 hw Z).1;refine Gb (X:=XS 224 sb mb s fr (10000-(k:Int)) w f) (H:=[]) (R:=[]) (B:=[]) (Fs:=[λw f=>Al w f t.kids a c,λw f=>Al w f u.kids a2 c2]) (f:=f) func131 C C C (jN hv hS hf ⟨hT,hU,tQ⟩ ⟨Al.mono,Al.mono,tQ⟩)<|Aa 13 (λb1=>λb2=>λ_=>BN C C (λw f d=>Ai C IL d.res.1 C)<|Aa 3 (λ_=>?_))
 ·
  refine Ap 13 C C (λh1=>?_) (λh1=>?_);refine Aa 8 (λ_=>?_);obtain rfl:k=0:=by have G:=beq_iff_eq.1 h1;omega
  have D:=fR s t u;exact A5 (Cb C C) (λw f d=>⟨(4,s,_),f,C,⟨λz h=>(by rw[D] at h;cases h),λe h=>(by rw[D] at h;cases h;exact⟨C,dC⟩)⟩,d.exm,d.res,tQ⟩);refine Aa 4 (λ_=>?_);obtain⟨k2,rfl⟩:∃q,k=q+1:=⟨k-1,by have G:=h1;have:¬(10000-(k:Int))=10000:=(by simpa using G);omega⟩;refine Aa 4 (λ_=>BN C C (λw f d=>Ai C IL d.res.1 C)<|Aa 3 (aI ⟨oM,oM⟩<|λ_=>ZZ (b:=sb) (I':=Bz 224 sb mb s fr (10000-(k2:Int))) C C C C IL C C C (.inl C) (λw f h=>h.1) (λw f w2 h d hC hb=>(by rw[show (10000-((k2+1:Nat):Int)+1)=10000-(k2:Int) by omega] at hb;exact⟨hb,let ⟨_,es,h2,h3⟩:=h;⟨es,h2.heap (hC.block mb (λe=>hne e.symm)),FJ.mono (hC.fle (d.mi sb (.inl C)).2.1) s es h3⟩⟩)) (Bz.stab (.inl C) (.inr C))<|Aa 3 (λ_=>?_)));refine OE (α:=oA×Nat×oA×Nat) (λx=>True) (λx=>(E3 0 (pB sb) 4 (pB b1) 5 (pB b2))) (λx=>⟨MD sb mb,MD sb mb,Bz 224 sb mb s fr (10000-(k2:Int)),w,f⟩) (λx=>[⟨b2,tC (Am s u) x.2.2.1 x.2.2.2,29,true⟩,⟨b1,tC (Am s t) x.1 x.2.1,29,true⟩]) (λx=>[]) (λx=>[]) (λx=>[λw f=>Al w f (Am s t).kids x.1 x.2.1,λw f=>Al w f (Am s u).kids x.2.2.1 x.2.2.2]) ?_ ?_;refine Cq [] Aj (.rd 0 (.rd 3 (.br 1 (.br 2 (.br 4 (.br 5 (.br 6 (.br 7 .fin .fin) .fin) .fin) .fin) (.br 4 (.br 2 (.br 5 (.br 6 (.br 7 .fin .fin) .fin) .fin) .fin) .fin)) (.br 4 (.br 1 (.br 2 (.br 5 (.br 6 (.br 7 .fin .fin) .fin) .fin) .fin) .fin) .fin)))) C kR<|Bf 2 (λ_=>Cl C ?_ ?_);refine Ae 2 [1] (y<|λ_=>Ar [] C<|Cl C ?_ ?_);refine CR C C (eC HK C C) (λw f d=>Fk w f d.vl sb mb s fr (10000-(k2:Int)) d.res hw t a c W d.f0) (λx=>⟨Al.mono,tQ⟩) ?_;rintro⟨ha,hc⟩ -;refine Aa 1 (λ_=>Ar [] C<|Ak C<|Ae 2 [0] (y<|λ_=>?_))
  rotate_left
  refine Ak C<|Ae 2 [0] (y<|λ_=>Ar [] C<|Ak C<|CR C C (eC HK C C) (λw f d=>Fk w f d.vl sb mb s fr (10000-(k2:Int)) d.res hw t a c W d.f0) (λx=>⟨Al.mono,tQ⟩) ?_);rintro⟨ha,hc⟩ -;refine Aa 1 (λ_=>?_)
  rotate_left
  refine Ak C<|Ae 2 [0] (y<|λ_=>Ar [] C<|Ak C<|Ae 2 [1] (y<|λ_=>Ar [] C<|Ak C<|CR C C (eC HK C C) (λw f d=>Fk w f d.vl sb mb s fr (10000-(k2:Int)) d.res hw t a c W d.f0) (λx=>⟨Al.mono,tQ⟩) ?_));rintro⟨ha,hc⟩ -;refine Aa 1 (λ_=>?_)
  rotate_left
  rintro⟨ha,hc,ga,gc⟩ -;dsimp only;refine Ae 9 [1] (y<|λ_=>?_)
  ·
   refine Ap 31 C C (λh2=>?_) (λh2=>?_);refine Ae 5 [0] (y<|λ_=>Ap 36 C C (λh3=>?_) (λh3=>?_));refine Ae 9 [1,0] (y<|y<|λ_=>Ap 27 C C (λh4=>?_) (λh4=>?_));refine Aa 9 (λ_=>?_);obtain⟨n,K⟩:=Eo h2;obtain⟨m,hm⟩:=Eo h3;have D:Gt (k2+1) s t.one u.one=.ok (k2,s):=by rw[Kc,K,hm];simp only[K4];rw[if_pos (by have G:=h4;rw[K,hm] at G;exact G)];cases k2 <;> rfl
   exact A5 (Cb C C) (λw f d=>⟨(0,s,_),f,C,⟨λz h=>(by rw[D] at h;cases h;exact⟨C,C,C,hw⟩),λe h=>(by rw[D] at h;cases h)⟩,d.exm,d.res,tQ⟩);refine Ae 9 [1] (y<|λ_=>nW 43 true C C h2<|Ae 7 [1,0] (y<|y<|λ_=>?_));obtain⟨n,K⟩:=Eo h2;refine CI (XX:=λ_ _=>False) C C (eC Qx C C) (λw f d=>(LA w f d.vl sb mb s fr (10000-(k2:Int)) d.res ⟨(d.mi sb (.inl C)).2.1,(d.mi mb (.inr C)).2.1⟩ hne hw (Am s t).num (by rw[K];exact Gq hw K) (Am s u) ga gc (C3 hw Z) d.f1).retP) (λ_=>(Bz.stab (.inl C) (.inr C))) (λ_=>trivial) (λ_ _ _ _ _ h=>h.elim) ?_;rintro⟨⟩ -;refine Aa 6 (λ_=>?_)
   have D:Gt (k2+1) s t.one u.one=(match CC s n (Am s u) with|.error e=>.error e|.ok b=>.ok (k2,b)):=by
    rw[Kc,K]
    cases hm:(Am s u) with
    |var m=>simp only[K4];rw[if_neg (by have G:=h4;rw[K,hm] at G;simp only[T1.num] at G;rw[G];simp)];cases CC s n (.var m) with|error e=>rfl|ok b=>cases k2 <;> rfl
    |con ty kb=>simp only[K4];cases CC s n (.con ty kb) with|error e=>rfl|ok b=>cases k2 <;> rfl
   rotate_left
   refine Ae 18 [1] (y<|λ_=>nW 43 true C C h2<|Ae 7 [1,0] (y<|y<|λ_=>?_));obtain⟨n,K⟩:=Eo h2;refine CI (XX:=λ_ _=>False) C C (eC Qx C C) (λw f d=>(LA w f d.vl sb mb s fr (10000-(k2:Int)) d.res ⟨(d.mi sb (.inl C)).2.1,(d.mi mb (.inr C)).2.1⟩ hne hw (Am s t).num (by rw[K];exact Gq hw K) (Am s u) ga gc (C3 hw Z) d.f1).retP) (λ_=>(Bz.stab (.inl C) (.inr C))) (λ_=>trivial) (λ_ _ _ _ _ h=>h.elim) ?_;rintro⟨⟩ -;refine Aa 6 (λ_=>?_)
   have D:Gt (k2+1) s t.one u.one=(match CC s n (Am s u) with|.error e=>.error e|.ok b=>.ok (k2,b)):=by
    rw[Kc,K]
    cases hm:(Am s u) with
    |var m=>simp only[K4];rw[if_neg (by have G:=h3;rw[hm] at G;cases G)];cases CC s n (.var m) with|error e=>rfl|ok b=>cases k2 <;> rfl
    |con ty kb=>simp only[K4];cases CC s n (.con ty kb) with|error e=>rfl|ok b=>cases k2 <;> rfl
   rotate_left
   refine Ae 23 [1] (y<|λ_=>nW 43 false C C h2<|Ae 9 [0] (y<|λ_=>?_))
   ·
    refine Ap 52 C C (λh3=>?_) (λh3=>?_);refine Ae 7 [0,1] (y<|y<|λ_=>?_);obtain⟨n,K⟩:=Eo h3;refine CI (XX:=λ_ _=>False) C C (eC Qx C C) (λw f d=>(LA w f d.vl sb mb s fr (10000-(k2:Int)) d.res ⟨(d.mi sb (.inl C)).2.1,(d.mi mb (.inr C)).2.1⟩ hne hw (Am s u).num (by rw[K];exact Gq hw K) (Am s t) ha hc (C3 hw W) d.f0).retP) (λ_=>(Bz.stab (.inl C) (.inr C))) (λ_=>trivial) (λ_ _ _ _ _ h=>h.elim) ?_;rintro⟨⟩ -;refine Aa 6 (λ_=>?_)
    have D:Gt (k2+1) s t.one u.one=(match CC s n (Am s t) with|.error e=>.error e|.ok b=>.ok (k2,b)):=by
     rw[Kc,K];obtain⟨tx,ka,J⟩:=Fe h2;rw[J];simp only[K4]
     cases CC s n (.con tx ka) with|error e=>rfl|ok b=>cases k2 <;> rfl
    have hnum:(Am s u).num=n:=by rw[K];rfl
    have F:JQ s (Am s u).num (Am s t)=(match CC s n (Am s t) with|.error e=>(e,s)|.ok b=>(0,b)):=by rw[hnum];rfl
    cases L:CC s n (Am s t) with
    |error er=>rw[L] at D F;exact A5 (Cb C C) (λw f d=>⟨(er,s,_),f,(by rw[F]),⟨λz h=>(by rw[D] at h;cases h),λe h=>(by rw[D] at h;cases h;exact⟨C,Wh L⟩)⟩,d.exm,(by have U:=d.res;rw[F] at U;exact U),tQ⟩)
    |ok b9=>rw[L] at D F;exact A5 (Cb C C) (λw f d=>⟨(0,b9,_),f,(by rw[F]),⟨λz h=>(by rw[D] at h;cases h;exact⟨C,C,C,WK hw (Gq hw K) (P7 hw _) (C3 hw W) L⟩),λe h=>(by rw[D] at h;cases h)⟩,d.exm,(by have U:=d.res;rw[F] at U;exact U),tQ⟩)
    refine Ae 9 [1,0] (y<|y<|λ_=>Ap 67 C C (λh4=>?_) (λh4=>?_));refine Aa 20 (λ_=>?_);obtain⟨tx,ka,J⟩:=Fe h2;obtain⟨ty,kb,O⟩:=Fe h3;have D:Gt (k2+1) s t.one u.one=.error 11:=by rw[Kc,J,O];simp only[K4];rw[if_pos (by have h8:=h4;rw[J,O] at h8;simp only[T1.tx] at h8;rw[h8];rfl)]
    rotate_left
    refine Ae 11 [1,0] (y<|y<|λ_=>Ap 61 C C (λh5=>?_) (λh5=>?_));refine Aa 9 (λ_=>?_);obtain⟨tx,ka,J⟩:=Fe h2;obtain⟨ty,kb,O⟩:=Fe h3;have D:Gt (k2+1) s t.one u.one=.error 11:=by rw[Kc,J,O];simp only[K4];rw[if_pos (by have G:=h5;rw[J,O] at G;simp only[T1.kids] at G;rw[G];simp)]
    rotate_left
    refine Aa 6 (λ_=>?_);obtain⟨tx,ka,J⟩:=Fe h2;obtain⟨ty,kb,O⟩:=Fe h3;have hlen:(Am s t).kids.len=(Am s u).kids.len:=by have G:(((Am s t).kids.len:Int) != (Am s u).kids.len)=false:=h5;simp at G;omega
    have D:Gt (k2+1) s t.one u.one=Gt k2 s (Am s t).kids (Am s u).kids:=by rw[Kc];rw[J,O];simp only[K4,T1.kids];rw[if_neg (by have h8:=h4;have G:=h5;rw[J,O] at h8 G;simp only[T1.tx,T1.kids] at h8 G;rw[h8,G];simp),Ty.app_nil,Ty.app_nil]
    refine Ae 8 [1] (y<|λ_=>?_);refine DK (α:=Nat×Ty×Ty×Nat×BP) (λx=>x.2.1.len) (λx=>x.1+x.2.1.len=(Am s t).kids.len∧x.2.2.1.len=x.2.1.len∧Gt k2 s (Am s t).kids (Am s u).kids=Gt x.2.2.2.1 x.2.2.2.2 x.2.1 x.2.2.1∧x.2.2.2.1≤k2∧I0 x.2.2.2.2∧x.2.1.bnd∧x.2.2.1.bnd) (λx=>(E5 0 (pB sb) 4 (pB b1) 5 (pB b2) 78 (iV ((Am s t).kids.len:Int)) 79 (iV (x.1:Int)))) (λx=>⟨MD sb mb,MD sb mb,Bz 224 sb mb x.2.2.2.2 fr (10000-(x.2.2.2.1:Int)),w,f⟩) (λx=>[⟨b2,tC (Am s u) ga gc,29,true⟩,⟨b1,tC (Am s t) ha hc,29,true⟩]) (λx=>[]) (λx=>[]) (λx=>[λw f=>BY w f ha x.1 x.2.1,λw f=>BY w f ga x.1 x.2.2.1]) (0,(Am s t).kids,(Am s u).kids,k2,s) ⟨by simp,hlen.symm,C,Nat.le_refl _,hw,(C3 hw W).2,(C3 hw Z).2⟩ lE (λw f d=>d.more (B':=[]) (F':=[λw f=>BY w f ha 0 (Am s t).kids,λw f=>BY w f ga 0 (Am s u).kids]) nE (AR.mem ⟨Al.at d.f0,Al.at d.f1,tQ⟩) (Au.mem ⟨BY.mono,BY.mono,tQ⟩) |>.less (H':=[⟨b2,tC (Am s u) ga gc,29,true⟩,⟨b1,tC (Am s t) ha hc,29,true⟩]) (R':=[]) (B':=[]) (F':=[λw f=>BY w f ha 0 (Am s t).kids,λw f=>BY w f ga 0 (Am s u).kids]) sR sR nE (mR [0,1])) ?_;rintro⟨i,r,q,j,s2⟩ ⟨hi,hq,Y,hjk,hw2,hrb,hqb⟩;dsimp only at hi hq Y hjk hw2 hrb hqb ⊢;refine Aa 6 (λ_=>Ap 80 C C (λh6=>?_) (λh6=>?_));refine Aa 12 (λ_=>?_);have hil:i<(Am s t).kids.len:=by have:=dT h6;omega
    obtain⟨t2,r,rfl⟩:=Ty.cases1 r oM;rw[T1.len_cons] at hi hq;obtain⟨u2,q,rfl⟩:=Ty.cases1 q oM;rw[T1.len_cons] at hq;refine kH 0 C ?_;rintro⟨eb,eo,ea,ec⟩ rfl;refine kH 3 C ?_;rintro⟨pb,po,pa,pc⟩ rfl;refine Cq [0,1] Aj (rd [0,1,2,3,4,5,6,7,8,9,10] (.br 11 (.rd 12 .fin) .fin)) C kR<|By 11 [1,101,0,0,100,0] (y<|aI oM<|y2<|y<|aI oM<|y2<|λ_=>Ak C<|CI (XX:=λ_ _=>False) C C (eC We C C) (λw f d=>(ih j oM w f d.vl sb mb s2 fr d.res ⟨(d.mi sb (.inl C)).2.1,(d.mi mb (.inr C)).2.1⟩ hne hw2 oM t2 u2 ea ec pa pc (T1.bnd_cons.1 hrb).1 (T1.bnd_cons.1 hqb).1 d.f2 d.f0).retP) (λ_=>(Bz.stab (.inl C) (.inr C))) (λ_=>trivial) (λ_ _ _ _ _ h=>h.elim) ?_);rintro⟨cd,s3,pr3⟩ ⟨hok,herr⟩;refine Aa 1 (λ_=>Ar [0,1] C<|Bf 1 (λ_=>BG<|Aa 7 (λ_=>Ap 95 C C (λU=>?_) (λU=>?_))));obtain⟨er,her⟩:∃e,Gt j s2 t2.one u2.one=.error e:=by cases hx:Gt j s2 t2.one u2.one with|error e=>exact⟨e,C⟩|ok z=>have g9:=(hok z hx).1;rw[g9] at U;cases U
    refine Aa 10 (λ_=>Hf<|Aa 2 (λ_=>?_));have Q:Gt (k2+1) s t.one u.one=.error er:=by rw[D,Y,Sn _ _ _ _ _ _ (by omega),her];rfl
    exact A5 (Cb C C) (λw f d=>⟨(cd,s3,pr3),f,C,⟨λz h=>(by rw[Q] at h;cases h),λe h=>(by rw[Q] at h;cases h;exact herr _ her)⟩,d.exm,d.res,tQ⟩);obtain⟨z,hz⟩:∃z,Gt j s2 t2.one u2.one=.ok z:=by cases hx:Gt j s2 t2.one u2.one with|ok z=>exact⟨z,C⟩|error e=>have g9:=herr e hx;have g8:cd=0:=(by simpa using U);exact absurd (g9.1.symm.trans g8) g9.2
    obtain⟨hz1,hz2,hz3,hz4⟩:=hok z hz;exact Aa 8 (aI ⟨oM,oM⟩<|λ_=>Ce ((i+1,r,q,z.1,z.2)) (show r.len<(t2.cons r).len by rw[T1.len_cons];omega) ⟨show i+1+r.len=_ by omega,show q.len=r.len by omega,show Gt k2 s _ _=Gt z.1 z.2 r q by rw[Y,Sn _ _ _ _ _ _ (by omega),hz];rfl,show z.1≤k2 by have:=un_le _ _ _ _ _ hz;omega,hz4,(T1.bnd_cons.1 hrb).2,(T1.bnd_cons.1 hqb).2⟩ lE (λw f d=>⟨_,by have hM2:=d.less (H':=[⟨b2,tC (Am s u) (some ⟨pb,po,none⟩) gc,29,true⟩,⟨b1,tC (Am s t) (some ⟨eb,eo,none⟩) hc,29,true⟩]) (R':=[]) (B':=[]) (F':=[λw f=>BY w f (some ⟨eb,eo,none⟩) (i+1) r,λw f=>BY w f (some ⟨pb,po,none⟩) (i+1) q]) sR sR nE (mR [3,1]);rw[hz2,hz3] at hM2;exact hM2⟩));refine Aa 3 (λ_=>Df<|Aa 8 (λ_=>?_));obtain rfl:r=.nil:=Ty.len0 (by have:=dF h6;omega);have Q:Gt (k2+1) s t.one u.one=.ok (j,s2):=by rw[D,Y];cases j <;> rfl
    exact A5 (Cb C C) (λw f d=>⟨(0,s2,_),f,C,⟨λz h=>(by rw[Q] at h;cases h;exact⟨C,C,C,hw2⟩),λe h=>(by rw[Q] at h;cases h)⟩,d.exm,d.res,tQ⟩)
    all_goals
     exact A5 (Cb C C) (λw f d=>⟨(11,s,_),f,C,⟨λz h=>(by rw[D] at h;cases h),λe h=>(by rw[D] at h;cases h;exact⟨C,dC⟩)⟩,d.exm,d.res,tQ⟩)
   all_goals
    have hnum:(Am s t).num=n:=by rw[K];rfl
    have F:JQ s (Am s t).num (Am s u)=(match CC s n (Am s u) with|.error e=>(e,s)|.ok b=>(0,b)):=by rw[hnum];rfl
    cases L:CC s n (Am s u) with
    |error er=>rw[L] at D F;exact A5 (Cb C C) (λw f d=>⟨(er,s,_),f,(by rw[F]),⟨λz h=>(by rw[D] at h;cases h),λe h=>(by rw[D] at h;cases h;exact⟨C,Wh L⟩)⟩,d.exm,(by have U:=d.res;rw[F] at U;exact U),tQ⟩)
    |ok b9=>rw[L] at D F;exact A5 (Cb C C) (λw f d=>⟨(0,b9,_),f,(by rw[F]),⟨λz h=>(by rw[D] at h;cases h;exact⟨C,C,C,WK hw (Gq hw K) (P7 hw _) (C3 hw Z) L⟩),λe h=>(by rw[D] at h;cases h)⟩,d.exm,(by have U:=d.res;rw[F] at U;exact U),tQ⟩)
  all_goals
   refine Ar [] C<|Ak C<|CR C C (eC HK C C) (λw f d=>Fk w f d.vl sb mb s fr (10000-(k2:Int)) d.res hw u a2 c2 Z d.f2) (λx=>⟨Al.mono,tQ⟩) ?_;rintro⟨ga,gc⟩ -;exact Aa 1 (λ_=>Ar [] C<|Ak C<|Ae 2 [1] (y<|λ_=>Ar [] C<|Ak C<|Ae 2 [0] (y<|λ_=>Ar [] C<|BG<|Lx (ha,hc,ga,gc) tQ lE (λw f d=>⟨f,d.less sR sR (λ_ h=>h) (mR [1,0])⟩))))

theorem XP(k:Nat):qA prog 131 224 k:=Nat.strongRecOn k λk F w f G sb mb s fr J K d hw L t u a c a2 c2 h D O Q=>Yi k F w f G sb mb s fr J K d hw L t u a c a2 c2 h D O Q
theorem Vs(w:wO)(f:Fq)(U:Vl w f)(sb mb:Nat)(s:BP)(fr pr:Int)(W:Bz 224 sb mb s fr pr w f)(Y:f sb=0∧f mb=0)(G:sb≠mb)(hw:I0 s)(t u:T1)(a:oA)(c:Nat)(a2:oA)(c2:Nat)(J:t.bnd)(K:u.bnd)(Z:Al w f t.kids a c)(hU:Al w f u.kids a2 c2) :
  AX prog 101 #[pB sb,tV t a c,tV u a2 c2] w (EF (α:=Int×BP×Int) (λx=>iV x.1) (λx=>(∀b,FL s t u=.ok b→x.1=0∧x.2.1=b∧I0 b)∧∀e,FL s t u=.error e→x.1=e∧e≠0) (MD sb mb) (λx=>Bz 224 sb mb x.2.1 fr x.2.2) (λ_=>[]) w f):=by
 refine Gb (X:=XS 224 sb mb s fr pr w f) (H:=[]) (R:=[]) (B:=[]) (Fs:=[λw f=>Al w f t.kids a c,λw f=>Al w f u.kids a2 c2]) (f:=f) func101 C C C (jN U W Y ⟨Z,hU,tQ⟩ ⟨Al.mono,Al.mono,tQ⟩)<|Aa 22 (λb1=>λb2=>λ_=>ZZ (b:=sb) (I':=Bz 224 sb mb s fr (10000-((10000:Nat):Int))) C C C C IL C C C (.inl C) (λw f h=>h.1) (λw f w2 h d Q hb=>⟨hb,let ⟨_,es,h2,h3⟩:=h;⟨es,h2.heap (Q.block mb (λe=>G e.symm)),FJ.mono (Q.fle (d.mi sb (.inl C)).2.1) s es h3⟩⟩) (Bz.stab (.inl C) (.inr C))<|Aa 3 (λ_=>Cq [0,1] Aj (rd [0,1,3] (.br 2 (.br 4 (.br 5 (.rd 6 .fin) .fin) .fin) .fin)) C kR<|By 3 [1,0] (y<|y<|λ_=>Ak C<|CR C C (eC Nl C C) (λw f d=>Oy w f d.vl t a c J d.f0) (λx=>⟨Al.mono,tQ⟩) ?_)));rintro⟨ha,hc⟩ -;refine Aa 1 (λ_=>Ar [0,1] C<|Ak C<|CR C C (eC Nl C C) (λw f d=>Oy w f d.vl u a2 c2 K d.f2) (λx=>⟨Al.mono,tQ⟩) ?_);rintro⟨ga,gc⟩ -;refine Aa 1 (λ_=>Ar [0,1] C<|Ak C<|CI (XX:=λ_ _=>False) C C (eC We C C) (λw f d=>(XP 10000 w f d.vl sb mb s fr d.res ⟨(d.mi sb (.inl C)).2.1,(d.mi mb (.inr C)).2.1⟩ G hw (Nat.le_refl _) t u ha hc ga gc J K d.f1 d.f0).retP) (λ_=>(Bz.stab (.inl C) (.inr C))) (λ_=>trivial) (λ_ _ _ _ _ h=>h.elim) ?_);rintro⟨cd,s3,O⟩ ⟨F,L⟩;exact Aa 1 (λ_=>Ar [0,1] C<|Bf 1 (λ_=>BG<|Aa 2 (λ_=>A5 (Cb C C) (λw f d=>⟨(cd,s3,O),f,C,⟨λb h=>(by rw[FL,SX] at h;cases D:Gt 10000 s t.one u.one with|error e=>rw[D] at h;cases h|ok z=>rw[D] at h;cases h;exact⟨(F z D).1,(F z D).2.1,(F z D).2.2.2⟩),λe h=>(by rw[FL,SX] at h;cases D:Gt 10000 s t.one u.one with|error e=>rw[D] at h;cases h;exact L _ D|ok z=>rw[D] at h;cases h)⟩,d.exm,d.res,tQ⟩))))
theorem Tr(w:wO)(f:Fq)(h:Vl w f)  :
  AX prog 32 #[.slice none 0 0] w (AU (α:=Unit) (λ_=>.slice none 0 0) (λ_=>True) (λ_=>[]) w f):=by
 refine Ed [] func32 C C C (Be h tQ tQ)<|Aa 12 (λ_=>Ap 4 C C (λd=>?_) (λd=>?_));exact Aa 8 (λ_=>A5 (Cb C C) (λw f D=>⟨(),f,C,tQ,D.exm,tQ⟩))
 cases d
theorem Dv(w:wO)(f:Fq)(h:Vl w f)(tx:lU) :
  AX prog 14 #[S tx,.slice none 0 0] w (AU (α:=Unit) (λ_=>tV (.con tx .nil) none 0) (λ_=>True) (λ_=>[]) w f):=by
 exact Ed [] func14 C C C (Be h tQ tQ)<|Aa 9 (λb1=>λ_=>BO C C (eC cD C C) (λw f d=>Tr w f d.vl)<|Ae 5 [0] (y<|λ_=>mrU (λw f d=>Ao C (Ab C CA d.k0 C)) C))
theorem XV(k:Nat)(ih:∀j,j<k→pM prog 142 224 j)(w:wO)(f:Fq)(hv:Vl w f)(sb mb:Nat)(s:BP)(fr pr:Int)(hS:Bz 224 sb mb s fr pr w f)(hw:I0 s)(t:T1)(a:oA)(c jj:Nat)(hb:t.bnd)(hT:Al w f t.kids a c)(F:Bu s k t.one=some jj) :
  AX prog 142 #[pB sb,tV t a c] w (AU (α:=oA×Nat) (λx=>tV (Bg s k t.one).hd x.1 x.2) (λ_=>True) (λx=>[λw f=>Al w f (Bg s k t.one).hd.kids x.1 x.2]) w f):=by
 have hkb:=(C3 hw hb).1;refine Ed [λw f=>Al w f t.kids a c] func142 C C C (Be hv ⟨hT,tQ⟩ ⟨Al.mono,tQ⟩)<|Ae 10 [1] (λb1=>λb2=>y<|λ_=>CR C C (eC HK C C) (λw f d=>Fk w f d.vl sb mb s fr pr (Bz.keep hS d.exm d.ent (λh=>h) (λh=>h)) hw t a c hb d.f0) (λx=>⟨Al.mono,tQ⟩) ?_);rintro⟨Y,hc⟩ -;refine Ae 5 [1] (y<|λ_=>?_);obtain⟨k2,rfl⟩:∃q,k=q+1:=by cases k with|zero=>rw[KH] at F;cases F|succ q=>exact⟨q,C⟩
 rw[J3] at F;refine Ae 6 [1] (y<|λ_=>?_)
 ·
  refine Ap 13 C C (λh1=>?_) (λh1=>?_);refine Ae 5 [1] (y<|λ_=>BO C C (eC IS C C) (λw f d=>F7 w f d.vl (Am s t).num)<|Ae 5 [0] (y<|λ_=>?_));obtain⟨n,hn⟩:=Eo h1;have D:(Bg s (k2+1) t.one).hd=.var n:=by rw[Oe,hn]
  exact A5 (λw f d=>Ao C (Ab C CA d.k0 C)) (λw f d=>⟨(none,0),f,(by rw[D,hn];rfl),tQ,d.exm,⟨by rw[D];exact Al.nil _ _ _ _,tQ⟩⟩);refine Ae 7 [1] (y<|λ_=>BO C C (eC C8 C C) (λw f d=>Dv w f d.vl (Am s t).tx)<|Ae 14 [0,2] (λb3=>y<|y<|λ_=>LY 29 4 ?_));refine DK (α:=Nat×Ty×Ty×lV×oA×Nat×Nat) (λx=>x.2.1.len) (λx=>x.1+x.2.1.len=(Am s t).kids.len∧x.2.2.1.len=x.1∧Bg s k2 (Am s t).kids=x.2.2.1.app (Bg s x.2.2.2.2.2.2 x.2.1)∧Bu s x.2.2.2.2.2.2 x.2.1=some jj∧x.2.2.2.2.2.2≤k2∧x.2.1.bnd) (λx=>(E7 0 (pB sb) 3 (pB b1) 4 (pB b2) 5 (pB b3) 21 (.slice Y (Am s t).kids.len hc) 22 (iV ((Am s t).kids.len:Int)) 23 (iV (x.1:Int)))) (λx=>X0 w f) (λx=>[⟨b3,[iV 1,iV 0,S (Am s t).tx,.slice x.2.2.2.2.1 x.1 x.2.2.2.2.2.1],29,true⟩,⟨b2,zT,29,true⟩,⟨b1,tC (Am s t) Y hc,29,true⟩]) (λx=>[⟨29,4,x.2.2.2.2.1,x.2.2.2.2.2.1,x.1,x.2.2.2.1⟩]) (λx=>[]) (λx=>[λw f=>BY w f Y x.1 x.2.1,λw f=>Cr w f x.2.2.1 x.2.2.2.1]) (0,(Am s t).kids,.nil,[],none,0,k2) ⟨by simp,C,C,F,Nat.le_refl _,(C3 hw hb).2⟩ lE (λw f d=>d.more (B':=[]) (F':=[λw f=>BY w f Y 0 (Am s t).kids,λw f=>Cr w f .nil []]) nE (AR.mem ⟨Al.at d.f0,C,tQ⟩) (Au.mem ⟨BY.mono,Cr.mono,tQ⟩) |>.less sR sR nE (mR [0,1])) ?_;rintro⟨i,r,Q,xs,ra,rc,j⟩ ⟨hi,J,Z,G,hjk,K⟩;dsimp only at hi J Z G hjk K ⊢;refine Aa 6 (λ_=>Ap 24 C C (λh2=>?_) (λh2=>?_));refine Aa 6 (λ_=>?_);have hil:i<(Am s t).kids.len:=by have:=dT h2;omega
  obtain⟨t2,r,rfl⟩:=Ty.cases1 r oM;rw[T1.len_cons] at hi;obtain⟨j2,L,U⟩:∃j2,Bu s j t2.one=some j2∧Bu s j2 r=some jj:=by rw[IZ] at G;cases hx:Bu s j t2.one with|none=>rw[hx] at G;cases G|some q=>rw[hx] at G;exact⟨q,C,G⟩
  refine kH 0 C ?_;rintro⟨eb,eo,ka,kc⟩ rfl;refine Ae 7 [100,0,0] (aI oM<|y2<|λb4=>y<|λ_=>Cq [0,2,3] Aj (rd [0,2,3] (.br 1 (.br 4 (.br 5 (.br 6 (.rd 7 (.br 8 .fin .fin)) .fin) .fin) .fin) (.br 4 (.br 1 (.br 5 (.br 6 (.rd 7 (.br 8 .fin .fin)) .fin) .fin) (.br 5 (.br 1 (.br 6 (.rd 7 (.br 8 .fin .fin)) .fin) .fin) .fin)) .fin))) C kR<|By 3 [0] (y<|λ_=>Cl C ?_ ?_));refine Ae 2 [1] (y<|λ_=>Ar [0,2,3] C<|Ak C<|CR C C (eC Rq C C) (λw f d=>ih j oM w f d.vl sb mb s fr pr (Bz.keep hS d.exm d.ent (λh=>h) (λh=>h)) hw t2 ka kc j2 (T1.bnd_cons.1 K).1 d.f0 L) (λx=>⟨Al.mono,tQ⟩) ?_);rintro⟨a2,c2⟩ -;refine Aa 1 (λ_=>Ar [0,2,3] C<|Ak C<|Aa 2 (λb5=>λ_=>?_))
  rotate_left
  refine Ak C<|CR C C (eC Rq C C) (λw f d=>ih j oM w f d.vl sb mb s fr pr (Bz.keep hS d.exm d.ent (λh=>h) (λh=>h)) hw t2 ka kc j2 (T1.bnd_cons.1 K).1 d.f0 L) (λx=>⟨Al.mono,tQ⟩) ?_;rintro⟨a2,c2⟩ -;refine Aa 1 (λ_=>Ar [0,2,3] C<|Cl C ?_ ?_);refine Ae 2 [1] (y<|λ_=>Ar [0,2,3] C<|Ak C<|Aa 2 (λb5=>λ_=>?_))
  rotate_left
  refine Ak C<|Aa 2 (λb5=>λ_=>Ar [1,3,4] C<|Ak C<|Ae 2 [2] (y<|λ_=>?_))
  rotate_left
  refine Aa 3 (λ_=>Df<|Ae 9 [0,1] (y<|y<|λ_=>?_));obtain rfl:r=.nil:=Ty.len0 (by have:=dF h2;omega);rw[G4,Ty.app_nil] at Z;obtain⟨tx,ka,O⟩:=Fe h1;have D:(Bg s (k2+1) t.one).hd=.con tx Q:=by rw[Oe,O,← Z,O];rfl
  have W:(Am s t).tx=tx:=by rw[O];rfl
  rcases Nat.eq_zero_or_pos Q.len with h0|h0
  · exact A5 (λw f d=>Ao C (Ab C CA d.k1 C)) (λw f d=>⟨(ra,rc),f,(by rw[D,W,← J];rfl),tQ,d.exm,⟨by rw[D];obtain rfl:=Ty.len0 h0;exact Al.nil _ _ _ _,tQ⟩⟩)
  · exact A5 (λw f d=>Ao C (Ab C CA d.k1 C)) (λw f d=>let ⟨f2,hM2,hF⟩:=R9 d d.f1 h0;⟨(ra,rc),f2,(by rw[D,W,← J];rfl),tQ,hM2.exm,⟨by rw[D];exact hF,tQ⟩⟩)
  all_goals
   refine Ar [1,3,4] C<|Ak C<|Dd 0 0 C C I1 C C C C C C C C (λ_ _=>C) oM oM λra2 rc2=>Aa 1 (λ_=>Ar [1,3,4] C<|Bf 1 (λ_=>Ak C<|Ae 2 [2] (y<|λ_=>Ar [1,3,4] C<|BG ?_)));exact Aa 6 (aI ⟨oM,oM⟩<|λ_=>Ce ((i+1,r,Q.snoc (Bg s j t2.one).hd,xs++tC (Bg s j t2.one).hd a2 c2,ra2,rc2,j2)) (show r.len<(t2.cons r).len by rw[T1.len_cons];omega) ⟨show i+1+r.len=_ by omega,show (Q.snoc _).len=i+1 by rw[Ty.len_snoc,J],show Bg s k2 _=(Q.snoc _).app (Bg s j2 r) by rw[Z,Xz L U,Ty.snoc_app],U,show j2≤k2 by have:=Fv s _ _ _ L;omega,(T1.bnd_cons.1 K).2⟩ lE (λw f d=>⟨_,(d.more (B':=[]) (F':=[λw f=>Cr w f (Q.snoc (Bg s j t2.one).hd) (xs++tC (Bg s j t2.one).hd a2 c2)]) nE (AR.mem ⟨Cr.snoc d.f0 d.f4,tQ⟩) (Au.mem ⟨Cr.mono,tQ⟩)).less (.cons _ (.cons _ sR)) sR nE (mR [3,0])⟩))

theorem Va(k:Nat):pM prog 142 224 k:=Nat.strongRecOn k λk d w f h sb mb s fr pr D hw t a c j F G J=>XV k d w f h sb mb s fr pr D hw t a c j F G J
theorem Ji(w:wO)(f:Fq)(L:Vl w f)(sb mb:Nat)(s:BP)(fr pr:Int)(G:Bz 224 sb mb s fr pr w f)(hw:I0 s)(t:T1)(a:oA)(c:Nat)(J:t.bnd)(O:Al w f t.kids a c) :
  AX prog 110 #[pB sb,tV t a c] w (AU (α:=oA×Nat) (λx=>.tuple #[tV ((DC s t).getD (.var 0)) x.1 x.2,iV (if (DC s t).isSome then 0 else 4)]) (λ_=>True) (λx=>[λw f=>Al w f ((DC s t).getD (.var 0)).kids x.1 x.2]) w f):=by
 refine Ed [λw f=>Al w f t.kids a c] func110 C C C (Be L ⟨O,tQ⟩ ⟨Al.mono,tQ⟩)<|Ae 21 [1] (λb1=>λb2=>y<|λ_=>BO C C (eC Wk C C) (λw f d=>OJ w f d.vl sb mb s fr pr (Bz.keep G d.exm d.ent (λh=>h) (λh=>h)) hw t a c J d.f0)<|Aa 4 (λ_=>Ap 10 C C (λD=>?_) (λD=>?_)));replace D:=B5 D;refine Ae 11 [0] (y<|λ_=>?_);have F:DC s t=none:=by rw[DC,D];rfl
 exact A5 (λw f d=>Bl C (Ab C CA d.k0 C) (Af C)) (λw f d=>⟨(none,0),f,(by rw[F];rfl),tQ,d.exm,⟨by rw[F];exact Al.nil _ _ _ _,tQ⟩⟩);replace D:=B3 D;refine Ae 8 [1] (y<|λ_=>?_);obtain⟨j,Q⟩:∃j,Bu s 1000 t.one=some j:=by have K:=D;rw[Hl,Fa] at K;exact Option.isSome_iff_exists.1 K
 refine CR C C (eC Rq C C) (λw f d=>Va 1000 w f d.vl sb mb s fr pr (Bz.keep G d.exm d.ent (λh=>h) (λh=>h)) hw t a c j J d.f0 Q) (λx=>⟨Al.mono,tQ⟩) ?_;rintro⟨a2,c2⟩ -;refine Ae 5 [0] (y<|λ_=>?_);have F:DC s t=some (Bg s 1000 t.one).hd:=by rw[DC,if_pos D]
 exact A5 (λw f d=>Bl C (Ab C CA d.k0 C) (Af C)) (λw f d=>⟨(a2,c2),f,(by rw[F];rfl),tQ,d.exm,⟨by rw[F];exact d.f0,tQ⟩⟩)
theorem Yd(m:Nat)(ih:oN prog 99 m)(w:wO)(f:Fq)(hv:Vl w f)(l:List Int)(L:oA)(lc:Nat)(h:Ty)(O:oA)(yc:Nat)(hl:l.length≤1000000)(hyl:h.len≤200000)(hyb:h.bnd)(hI:Cg w f l L lc)(hY:Al w f h O yc)(t:T1)(a:oA)(c:Nat)(hm:t.kids.size<m+1)(J:t.bnd)(hT:Al w f t.kids a c) :
  AX prog 99 #[tV t a c,.slice L l.length lc,.slice O h.len yc] w (AU (α:=oA×Nat) (λx=>tV (Dj t l h) x.1 x.2) (λ_=>True) (λx=>[λw f=>Al w f (Dj t l h).kids x.1 x.2]) w f):=by
 have hbl:=J.1;refine Ed [λw f=>Al w f t.kids a c,λw f=>Cg w f l L lc,λw f=>Al w f h O yc] func99 C C C (Be hv ⟨hT,hI,hY,tQ⟩ ⟨Al.mono,Cg.mono,Al.mono,tQ⟩)<|Ae 14 [1] (λb1=>λb2=>y<|λ_=>?_)
 ·
  refine Ap 13 C C (λQ=>?_) (λQ=>?_);refine Ae 7 [1] (y<|λ_=>BO C C (eC VS C C) (λw f d=>M3 w f d.vl l L lc t.num hl d.f1)<|Aa 8 (λ_=>Ap 20 C C (λK=>?_) (λK=>?_)));refine Aa 7 (λ_=>Ap 25 C C (λh3=>?_) (λh3=>?_));refine Aa 2 (λ_=>?_);obtain⟨i,hix⟩:∃i,D6 l t.num=some i:=by cases hx:D6 l t.num with|some i=>exact⟨i,C⟩|none=>have G:=dT K;simp only[Yt,hx] at G;omega
  have F:Yt l t.num=i:=by rw[Yt,hix]
  obtain⟨t2,U⟩:=II (k:=h) (i:=i) (by have G:=dT h3;rw[F] at G;omega);refine Hh (α:=Nat×Nat×oA×Nat) (λx=>O=some ⟨x.1,x.2.1,none⟩) (λx=>[⟨x.1,x.2.1+i*4,tC t2 x.2.2.1 x.2.2.2⟩]) (λx=>[λw f=>Al w f t2.kids x.2.2.1 x.2.2.2]) (λw f d=>let ⟨b,off,ka,kc,Q,K,h3⟩:=Al.nth d.f2 U;⟨(b,off,ka,kc),Q,(oE K),AR.mem ⟨h3,tQ⟩⟩) (λx=>Au.mem ⟨Al.mono,tQ⟩) ?_;rintro⟨eb,eo,ka,kc⟩ rfl;have hil:i<h.len:=by have G:=dT h3;rw[F] at G;omega
  rw[F];refine Ae 5 [100,0] (aI oM<|y2<|λ_=>CR C C (eC Nl C C) (λw f d=>Oy w f d.vl t2 ka kc (HV hyb U) d.f0) (λx=>⟨Al.mono,tQ⟩) ?_);rintro⟨a2,c2⟩ -;refine Ae 6 [0] (y<|λ_=>?_);obtain⟨n,rfl⟩:=Eo Q;have D:Dj (.var n) l h=t2:=by rw[NO,show D6 l n=some i from hix];show (h.get i).getD _=t2;rw[U];rfl
  exact A5 (λw f d=>Ao C (Ab C CA d.k0 C)) (λw f d=>⟨(a2,c2),f,(by rw[D]),tQ,d.exm,⟨by rw[D];exact d.f0,tQ⟩⟩);refine Ae 11 [1,0] (y<|y<|λ_=>?_);obtain⟨n,rfl⟩:=Eo Q
  have D:Dj (.var n) l h=.var n:=by
   rw[NO]
   cases hx:D6 l n with
   |none=>rfl
   |some i=>show (h.get i).getD _=_;rw[bZ (by have G:=dF h3;rw[show Yt l (T1.num (.var n))=i by simp only[T1.num,Yt,hx]] at G;omega)];rfl
  rotate_left
  refine Ae 18 [1,0] (y<|y<|λ_=>?_);obtain⟨n,rfl⟩:=Eo Q
  have D:Dj (.var n) l h=.var n:=by
   rw[NO]
   cases hx:D6 l n with
   |none=>rfl
   |some i=>have G:=dF K;rw[show Yt l (T1.num (.var n))=i by simp only[T1.num,Yt,hx]] at G;omega
  rotate_left
  refine Ae 8 [1] (y<|λ_=>mmk C C I1 C C C C (by have:=J.1;omega) (by have:=J.1;unfold maxLen;omega) λW=>Ae 13 [1] (y<|λ_=>?_));refine DK (α:=Nat×Ty×Ty×lV) (λx=>x.2.1.len) (λx=>x.1+x.2.1.len=t.kids.len∧x.2.2.1.len=x.1∧Ev l h t.kids=x.2.2.1.app (Ev l h x.2.1)∧x.2.1.bnd∧x.2.1.size≤t.kids.size) (λx=>(E8 1 (.slice L l.length lc) 2 (.slice O h.len yc) 3 (pB b1) 6 (pB b2) 8 (.slice (some ⟨W,0,none⟩) t.kids.len t.kids.len) 37 (.slice a t.kids.len c) 38 (iV (t.kids.len:Int)) 39 (iV (x.1:Int)))) (λx=>X0 w f) (λx=>[⟨b2,zT,29,true⟩,⟨b1,tC t a c,29,true⟩]) (λx=>[⟨29,4,some ⟨W,0,none⟩,t.kids.len,t.kids.len,x.2.2.2++EV x.2.1.len zT⟩]) (λx=>[]) (λx=>[λw f=>BY w f a x.1 x.2.1,λw f=>Cr w f x.2.2.1 x.2.2.2,λw f=>Cg w f l L lc,λw f=>Al w f h O yc]) (0,t.kids,.nil,[]) ⟨by simp,C,C,J.2,Nat.le_refl _⟩ lE (λw f d=>d.more (B':=[]) (F':=[λw f=>BY w f a 0 t.kids,λw f=>Cr w f .nil []]) nE (AR.mem ⟨Al.at d.f0,C,tQ⟩) (Au.mem ⟨BY.mono,Cr.mono,tQ⟩) |>.less sR sR nE (mR [0,1,3,4])) ?_;rintro⟨i,r,Y,xs⟩ ⟨hi,Z,hk,hb,hs⟩;dsimp only at hi Z hk hb hs ⊢;refine Aa 6 (λ_=>Ap 40 C C (λK=>?_) (λK=>?_));refine Aa 6 (λ_=>?_);have hil:i<t.kids.len:=by have:=dT K;omega
  obtain⟨t2,r,rfl⟩:=Ty.cases1 r oM;rw[T1.len_cons] at hi;refine kH 0 C ?_;rintro⟨eb,eo,ka,kc⟩ rfl;refine Ae 15 [100,0,0,0] (aI oM<|y2<|λb3=>y<|y<|λ_=>CR C C (eC En C C) (λw f d=>ih w f d.vl l L lc h O yc hl hyl hyb d.f4 d.f5 t2 ka kc (by have:=T1.size_cons t2 r;omega) (T1.bnd_cons.1 hb).1 d.f0) (λx=>⟨Al.mono,tQ⟩) ?_);rintro⟨a2,c2⟩ -;refine Aa 1 (aI oM<|λ_=>Kz (λw f d=>Cr.len d.f4) λhxl=>?_);rw[Z] at hxl;exact mrs 0 ((xs++tC (Dj t2 l h) a2 c2)++EV r.len zT) C C C C CA C C C (by simp only[Nat.zero_add,List.length_cons,List.length_nil,Int.toNat_natCast];omega) (by rw[Nat.zero_add,Int.toNat_natCast,← hxl,T1.len_cons,EV];exact N9 _ _ _ _ C) C<|Aa 7 (aI ⟨oM,oM⟩<|λ_=>Ce ((i+1,r,Y.snoc (Dj t2 l h),xs++tC (Dj t2 l h) a2 c2)) (show r.len<(t2.cons r).len by rw[T1.len_cons];omega) ⟨show i+1+r.len=t.kids.len by omega,show (Y.snoc _).len=i+1 by rw[Ty.len_snoc,Z],show Ev l h t.kids=(Y.snoc _).app (Ev l h r) by rw[hk,Xu,Ty.snoc_app],(T1.bnd_cons.1 hb).2,show r.size≤t.kids.size by have:=T1.size_cons t2 r;omega⟩ lE (λw f d=>⟨_,(d.more (B':=[]) (F':=[λw f=>Cr w f (Y.snoc (Dj t2 l h)) (xs++tC (Dj t2 l h) a2 c2)]) nE (AR.mem ⟨Cr.snoc d.f0 d.f4,tQ⟩) (Au.mem ⟨Cr.mono,tQ⟩)).less (.cons _ sR) sR nE (mR [3,0,6,7])⟩));refine Aa 3 (λ_=>Df<|Aa 3 (λ_=>?_));obtain rfl:r=.nil:=Ty.len0 (by have:=dF K;omega);rw[show Ev l h .nil=.nil from C,Ty.app_nil] at hk;refine bE 0 C C<|Ae 13 [1,1,0] (y<|y<|y<|λ_=>?_);obtain⟨tx,kk,rfl⟩:=Fe Q;have D:Dj (.con tx kk) l h=.con tx Y:=by rw[bM];exact congrArg _ hk
  have hdk:Y.len=kk.len:=by have G:i+0=kk.len:=hi;omega
  exact A5 (λw f d=>Ao C (Ab C CA d.k0 C)) (λw f d=>⟨(some ⟨W,0,none⟩,kk.len),f,(by rw[D];show _=Value.agg #[_,_,_,.slice _ Y.len _];rw[hdk];rfl),tQ,d.exm,⟨by rw[D];exact Cr.toF d.f1 (by have:=d.b0;simpa[EV,Ty.len] using this) (Nat.le_of_eq hdk),tQ⟩⟩)
  all_goals
   exact A5 (λw f d=>Ao C (Ab C CA d.k0 C)) (λw f d=>⟨(a,c),f,(by rw[D]),tQ,d.exm,⟨by rw[D];exact Al.mono _ _ _ _ hT d.ent,tQ⟩⟩)

theorem Cw(w:wO)(f:Fq)(J:Vl w f)(l:List Int)(D:oA)(lc:Nat)(d:Ty)(F:oA)(G:Nat)(O:l.length≤1000000)(K:d.len≤200000)(L:d.bnd)(Q:Cg w f l D lc)(hY:Al w f d F G)(t:T1)(a:oA)(c:Nat)(U:t.bnd)(W:Al w f t.kids a c) :
  AX prog 99 #[tV t a c,.slice D l.length lc,.slice F d.len G] w (AU (α:=oA×Nat) (λx=>tV (Dj t l d) x.1 x.2) (λ_=>True) (λx=>[λw f=>Al w f (Dj t l d).kids x.1 x.2]) w f) :=
 Nc (p:=oN prog 99) (λw f J l D lc d F G _ _ _ _ _ t a c h=>by omega) (λm Y w f J l D lc d F G Z h2 h3 h4 h5 t a c h6 h7 h8=>Yd m Y w f J l D lc d F G Z h2 h3 h4 h5 t a c h6 h7 h8) (t.kids.size+1) w f J l D lc d F G O K L Q hY t a c (Nat.lt_succ_self _) U W
theorem Xo(m:Nat)(ih:oJ prog 137 176 m)(w:wO)(f:Fq)(hv:Vl w f)(ob mb:Nat)(oa:oA)(oc:Nat)(l:List Int)(Z:Q4 176 ob mb oa oc l w f)(hf:∀b,ON ob mb oa b→f b=0)(t:T1)(a:oA)(c:Nat)(hm:t.kids.size<m+1)(hsz0:t.kids.size+1+l.length≤1000000)(U:t.bnd)(hT:Al w f t.kids a c) :
  AX prog 137 #[tV t a c,.map (some mb),pB ob] w (Ny (α:=oA×Nat) (λ_=>.tuple #[]) (λ_=>True) (ON ob mb oa) (λx=>ON ob mb x.1) (λx=>Q4 176 ob mb x.1 x.2 (CO t.one l)) (λ_=>[]) w f):=by
 have hbl:=U.1;refine Gb (X:=⟨ON ob mb oa,ON ob mb oa,Q4 176 ob mb oa oc l,w,f⟩) (H:=[]) (R:=[]) (B:=[]) (Fs:=[λw f=>Al w f t.kids a c]) (f:=f) func137 C C C (JF (M:=ON ob mb oa) hv Z EJ.stab (λb J=>⟨Z.lt J,hf b J⟩) ⟨hT,tQ⟩ ⟨Al.mono,tQ⟩)<|Ae 13 [0] (λb1=>y<|λ_=>?_)
 ·
  refine Ap 10 C C (λF=>?_) (λF=>?_);refine Ae 7 [0] (y<|λ_=>BN C C (λw f d=>RE (K:=Ez) (a:=t.num) C C Nz OY rF d.res.map (KU d.res.nd) (WM t.num l))<|Aa 3 (λ_=>Ap 15 C C (λD=>?_) (λD=>?_)));replace D:=B5 D;refine Ae 6 [0] (y<|λ_=>yJ (K:=Ez) (a:=t.num) (l:=GZ l) (I':=EJ 176 ob mb (.slice oa l.length oc) (l++[t.num]) oa oc l) C C C C Nz OY (.inr (.inl C)) (KU Z.nd) (WQ D) (λw f h=>h.map) (λw f w2 h d hC hm=>EJ.mapped h hC hm D) EJ.stab<|Aa 2 (λ_=>Cq [0] Aj (rd [0,1,2,4,5] (.br 3 (.br 6 (.br 7 (.rd 8 (.br 9 .fin .fin)) .fin) .fin) (.br 6 (.br 3 (.br 7 (.rd 8 (.br 9 .fin .fin)) .fin) .fin) .fin))) C kR<|By 5 [0] (y<|λ_=>Cl C ?_ ?_)));refine BN C C (λw f d=>Ai C Ns d.res.blk C)<|Aa 1 (λ_=>Ar [0] C<|Ak C<|Aa 2 (λb2=>λ_=>?_))
  rotate_left
  refine Ak C<|Aa 2 (λb2=>λ_=>Ar [1] C<|Ak C<|BN C C (λw f d=>Ai C Ns d.res.blk C)<|Aa 1 (λ_=>?_))
  rotate_left
  replace D:=B3 D;refine Aa 5 (λ_=>?_);obtain⟨n,rfl⟩:=Eo F;have G:CO (T1.var n).one l=l:=by rw[T6];exact if_pos D
  exact A5 (λw f d=>Gz C) (λw f d=>⟨(oa,oc),f,C,tQ,d.exm,(λb J=>let ⟨F,D,O⟩:=d.mi b J;O.elim (λh=>.inr ⟨h,F,D⟩) .inl),(by rw[G];exact d.res),tQ⟩);refine Ae 12 [0] (y<|λ_=>?_);refine DK (α:=Nat×Ty×List Int×oA×Nat) (λx=>x.2.1.len) (λx=>x.1+x.2.1.len=t.kids.len∧CO t.kids l=CO x.2.1 x.2.2.1∧x.2.1.bnd∧x.2.1.size+x.2.2.1.length≤1000000∧x.2.1.size≤t.kids.size) (λx=>(E6 1 (.map (some mb)) 2 (pB ob) 3 (pB b1) 29 (.slice a t.kids.len c) 30 (iV (t.kids.len:Int)) 31 (iV (x.1:Int)))) (λx=>⟨ON ob mb oa,ON ob mb x.2.2.2.1,Q4 176 ob mb x.2.2.2.1 x.2.2.2.2 x.2.2.1,w,f⟩) (λx=>[⟨b1,tC t a c,29,true⟩]) (λx=>[]) (λx=>[]) (λx=>[λw f=>BY w f a x.1 x.2.1]) (0,t.kids,l,oa,oc) ⟨by simp,C,U.2,(by show t.kids.size+l.length≤1000000;omega),Nat.le_refl _⟩ lE (λw f d=>d.more (B':=[]) (F':=[λw f=>BY w f a 0 t.kids]) nE (AR.mem ⟨Al.at d.f0,tQ⟩) (Au.mem ⟨BY.mono,tQ⟩) |>.less sR sR nE (mR [0])) ?_;rintro⟨i,r,Q,W,Y⟩ ⟨hi,hk,L,hsz,hs⟩;dsimp only at hi hk L hsz hs ⊢;refine Aa 6 (λ_=>Ap 32 C C (λD=>?_) (λD=>?_));refine Aa 6 (λ_=>?_);have hil:i<t.kids.len:=by have:=dT D;omega
  obtain⟨t2,r,rfl⟩:=Ty.cases1 r oM;rw[T1.len_cons] at hi;refine kH 0 C ?_;rintro⟨eb,eo,ka,kc⟩ rfl;refine Ae 11 [100,0,0,0] (aI oM<|y2<|λb2=>y<|y<|λ_=>fN (XX:=λ_ _=>False) C C (eC W9 C C) (λw f d=>(ih w f d.vl ob mb W Y Q d.res d.mz t2 ka kc (by have:=T1.size_cons t2 r;omega) (by have:=T1.size_cons t2 r;omega) (T1.bnd_cons.1 L).1 d.f0).retP) (λ_=>EJ.stab) (λ_=>trivial) (λ_ _ _ _ _ h=>h.elim) ?_);rintro⟨oa3,oc3⟩ -;exact Aa 7 (aI ⟨oM,oM⟩<|λ_=>Ce ((i+1,r,CO t2.one Q,oa3,oc3)) (show r.len<(t2.cons r).len by rw[T1.len_cons];omega) ⟨show i+1+r.len=t.kids.len by omega,show CO t.kids l=CO r (CO t2.one Q) by rw[hk,Yn],(T1.bnd_cons.1 L).2,show r.size+(CO t2.one Q).length≤1000000 by have F:=T1.size_cons t2 r;have D:=IT t2.one Q;have O:t2.one.size=t2.kids.size+0+1:=T1.size_cons t2 .nil;omega,show r.size≤t.kids.size by have:=T1.size_cons t2 r;omega⟩ lE (λw f d=>⟨_,d.less (.cons _ sR) sR nE (mR [1])⟩));refine Aa 3 (λ_=>Df<|Aa 1 (λ_=>?_));obtain rfl:r=.nil:=Ty.len0 (by have:=dF D;omega);obtain⟨tx,kk,rfl⟩:=Fe F;have G:CO (T1.con tx kk).one l=Q:=by rw[ZS];exact hk
  exact kC (λw f d=>Gz C) (λw f d=>⟨(W,Y),f,C,tQ,d.exm,(λb J=>let ⟨F,D,O⟩:=d.mi b J;O.elim (λh=>.inr ⟨h,F,D⟩) .inl),(by rw[G];exact d.res),tQ⟩)
  all_goals
   refine Ar [1] C<|Ak C<|YS (MI':=ON ob mb) (I':=λa' c'=>EJ 176 ob mb (.slice oa l.length oc) (l++[t.num]) a' c' (l++[t.num])) 0 C C QH C C C C C C C oM oM (λw f h=>h.row) (λb h=>.inr (.inr h)) (λ_ _ h=>ON.or h) (λw f w2 a2 c2 h d hr hG=>EJ.app h hr hG) (λ_ _=>EJ.stab) λa2 c2=>Aa 1 (λ_=>Ar [1] C<|Bf 1 (λ_=>Ak C<|ZZ (b:=ob) (I':=EJ 176 ob mb (.slice a2 (l.length+1) c2) (l++[t.num]) a2 c2 (l++[t.num])) C C C C Ns C C C (.inl C) (λw f h=>h.blk) (λw f w2 h d hC J=>EJ.store h hC J) EJ.stab<|Aa 1 (λ_=>Ar [1] C ?_)));refine BG<|Aa 3 (λ_=>?_);obtain⟨n,rfl⟩:=Eo F;have G:CO (T1.var n).one l=l++[n]:=by rw[T6,if_neg (by rw[show l.contains n=false from D];decide)]
   exact A5 (λw f d=>Gz C) (λw f d=>⟨(a2,c2),f,C,tQ,d.exm,(λb J=>let ⟨F,D,O⟩:=d.mi b J;O.elim (λh=>.inr ⟨h,F,D⟩) .inl),(by rw[G];have h9:=d.res;rw[show l.length+1=(l++[n]).length by simp] at h9;exact h9),tQ⟩)

theorem Yh(w:wO)(f:Fq)(F:Vl w f)(ob mb:Nat)(a:oA)(c:Nat)(l:List Int)(J:Q4 176 ob mb a c l w f)(K:∀b,ON ob mb a b→f b=0)(t:T1)(d:oA)(D:Nat)(G:t.kids.size+1+l.length≤1000000)(L:t.bnd)(O:Al w f t.kids d D) :
  AX prog 137 #[tV t d D,.map (some mb),pB ob] w (Ny (α:=oA×Nat) (λ_=>.tuple #[]) (λ_=>True) (ON ob mb a) (λx=>ON ob mb x.1) (λx=>Q4 176 ob mb x.1 x.2 (CO t.one l)) (λ_=>[]) w f) :=
 Nc (p:=oJ prog 137 176) (λw f F ob mb a c l _ _ t d D h=>by omega) (λm Q w f F ob mb a c l U W t d D Y Z h5 h6=>Xo m Q w f F ob mb a c l U W t d D Y Z h5 h6) (t.kids.size+1) w f F ob mb a c l J K t d D (Nat.lt_succ_self _) G L O
theorem Gn(w:wO)(f:Fq)(Y:Vl w f)(t:T1)(a:oA)(c:Nat)(F:t.kids.size+1≤1000000)(D:t.bnd)(Z:Al w f t.kids a c) :
  AX prog 104 #[tV t a c] w (AU (α:=oA×Nat) (λx=>.slice x.1 (An t).length x.2) (λ_=>True) (λx=>[λw f=>Cg w f (An t) x.1 x.2]) w f):=by
 refine Ed [λw f=>Al w f t.kids a c] func104 C C C (Be Y ⟨Z,tQ⟩ ⟨Al.mono,tQ⟩)<|Ae 14 [1] (λb1=>λb2=>y<|λ_=>mmp (K:=Ez) C C λm1=>uH 0 C C<|Kz (λw f d=>(λe=>(by have W:=d.res.1.2.lt;have G:=d.res.2;subst e;obtain⟨es,c,J,_⟩:=d.res.1.2;have L:=G.symm.trans J;cases L):b2≠m1)) λO=>fN (α:=oA×Nat) (val:=λ_=>.tuple #[]) (q:=λ_=>True) (MI':=λx=>ON b2 m1 x.1) (I':=λx=>Q4 176 b2 m1 x.1 x.2 (An t)) (F':=λ_=>[]) (XX:=λ_ _=>False) C C (eC W9 C C) (λw f d=>((Yh w f d.vl b2 m1 none 0 [] ⟨d.res.2,d.res.1.2,Fx _ _ _,⟨O,by simp[rb],by simp[rb]⟩,List.nodup_nil⟩ (λb D=>(d.mi b (D.elim .inr (λh=>h.elim (λh=>.inl (.inr h)) (λh=>by cases h)))).2.1) t a c F D d.f0).mono λv w2 ⟨x,f2,W,G,J,L,h5,h6⟩=>⟨x,f2,W,G,J.mono (λb D=>D.elim .inr (λh=>h.elim (λh=>.inl (.inr h)) (λh=>by cases h))),(λb D=>(L b D).imp (λD=>D.elim .inr (λh=>h.elim (λh=>.inl (.inr h)) (λh=>by cases h))) id),h5,h6⟩).retP) (λ_=>EJ.stab) (λ_=>trivial) (λ_ _ _ _ _ h=>h.elim) ?_);rintro⟨Q,U⟩ -;exact Aa 4 (λ_=>BN C C (λw f d=>Ai C Ns d.res.blk C)<|Aa 4 (λ_=>A5 (Cb C C) (λw f d=>let ⟨f2,hE,hF⟩:=EJ.int d.res d.exm (λb D=>(d.mi b (.inr (.inr D))).2.2.elim id (λh=>h.elim));⟨(Q,U),f2,C,tQ,hE,⟨hF,tQ⟩⟩)))
end Go.Proofs.YtnojaendcldjpaaGreatDoor
namespace Go.Proofs
open Go.Shelf
def Tryz.lays156_ren:Go.Shelf.Ren:=⟨λ|156=>140|165=>162|166=>163|169=>164|240=>185|241=>186|276=>202|277=>203|n=>n,λ|31=>63|9=>9|3=>3|4=>4|0=>0|20=>20|72=>257|76=>259|70=>255|37=>127|75=>241|127=>274|164=>293|5=>5|80=>261|n=>n,λ|n=>n⟩
theorem Tryz.lays156:Go.Proofs.Lays.n156 prog Tryz.lays156_ren:={
 mixed:=kR
 f156:=func140.trans (congrArg some kR)
 f165:=func162.trans (congrArg some kR)
 f166:=func163.trans (congrArg some kR)
 f169:=func164.trans (congrArg some kR)
 f240:=func185.trans (congrArg some kR)
 f241:=func186.trans (congrArg some kR)
 f276:=func202.trans (congrArg some kR)
 f277:=func203.trans (congrArg some kR)
 t0:=underlying0
 a0:=isAgg0
 z0:=sizeOf0
 v0:=zeroValue0
 t3:=underlying3
 a3:=isAgg3
 z3:=sizeOf3
 v3:=zeroValue3
 t4:=underlying4
 a4:=isAgg4
 z4:=sizeOf4
 v4:=zeroValue4
 t9:=underlying9
 a9:=isAgg9
 z9:=sizeOf9
 v9:=zeroValue9
 t20:=underlying20
 a20:=isAgg20
 z20:=sizeOf20
 v20:=zeroValue20
 t31:=underlying63
 a31:=isAgg63
 z31:=sizeOf63
 v31:=zeroValue63
 t37:=underlying127
 a37:=isAgg127
 z37:=sizeOf127
 v37:=zeroValue127
 t70:=underlying255
 a70:=isAgg255
 z70:=sizeOf255
 v70:=zeroValue255
 t72:=underlying257
 a72:=isAgg257
 z72:=sizeOf257
 v72:=zeroValue257
 t75:=underlying241
 a75:=isAgg241
 z75:=sizeOf241
 v75:=zeroValue241
 t76:=underlying259
 a76:=isAgg259
 z76:=sizeOf259
 v76:=zeroValue259
 t127:=underlying274
 a127:=isAgg274
 z127:=sizeOf274
 v127:=zeroValue274
 t164:=underlying293
 a164:=isAgg293
 z164:=sizeOf293
 v164:=zeroValue293}
def Tryz.lays171_ren:Go.Shelf.Ren:=⟨λ|171=>139|243=>161|246=>184|283=>198|284=>199|285=>200|286=>201|129=>214|317=>213|318=>215|319=>216|320=>217|337=>232|338=>233|n=>n,λ|3=>3|9=>9|2=>2|4=>4|171=>288|0=>0|53=>170|37=>127|5=>5|173=>291|212=>307|51=>157|20=>20|213=>308|46=>238|232=>357|233=>358|n=>n,λ|17=>6|18=>15|19=>16|n=>n⟩
theorem Tryz.lays171:Go.Proofs.Lays.n171 prog Tryz.lays171_ren:={
 mixed:=kR
 f129:=func214.trans (congrArg some kR)
 f171:=func139.trans (congrArg some kR)
 f243:=func161.trans (congrArg some kR)
 f246:=func184.trans (congrArg some kR)
 f283:=func198.trans (congrArg some kR)
 f284:=func199.trans (congrArg some kR)
 f285:=func200.trans (congrArg some kR)
 f286:=func201.trans (congrArg some kR)
 f317:=func213.trans (congrArg some kR)
 f318:=func215.trans (congrArg some kR)
 f319:=func216.trans (congrArg some kR)
 f320:=func217.trans (congrArg some kR)
 f337:=func232.trans (congrArg some kR)
 f338:=func233.trans (congrArg some kR)
 t0:=underlying0
 a0:=isAgg0
 z0:=sizeOf0
 v0:=zeroValue0
 t2:=underlying2
 a2:=isAgg2
 z2:=sizeOf2
 v2:=zeroValue2
 t3:=underlying3
 a3:=isAgg3
 z3:=sizeOf3
 v3:=zeroValue3
 t4:=underlying4
 a4:=isAgg4
 z4:=sizeOf4
 v4:=zeroValue4
 t5:=underlying5
 a5:=isAgg5
 z5:=sizeOf5
 v5:=zeroValue5
 t9:=underlying9
 a9:=isAgg9
 z9:=sizeOf9
 v9:=zeroValue9
 t20:=underlying20
 a20:=isAgg20
 z20:=sizeOf20
 v20:=zeroValue20
 t37:=underlying127
 a37:=isAgg127
 z37:=sizeOf127
 v37:=zeroValue127
 t46:=underlying238
 a46:=isAgg238
 z46:=sizeOf238
 v46:=zeroValue238
 t51:=underlying157
 a51:=isAgg157
 z51:=sizeOf157
 v51:=zeroValue157
 t53:=underlying170
 a53:=isAgg170
 z53:=sizeOf170
 v53:=zeroValue170
 t171:=underlying288
 a171:=isAgg288
 z171:=sizeOf288
 v171:=zeroValue288
 t173:=underlying291
 a173:=isAgg291
 z173:=sizeOf291
 v173:=zeroValue291
 t212:=underlying307
 a212:=isAgg307
 z212:=sizeOf307
 v212:=zeroValue307
 t213:=underlying308
 a213:=isAgg308
 z213:=sizeOf308
 t232:=underlying357
 a232:=isAgg357
 z232:=sizeOf357
 v232:=zeroValue357
 t233:=underlying358
 a233:=isAgg358
 z233:=sizeOf358
 v233:=zeroValue358
 g17:=kR
 g18:=kR
 g19:=by kernel_rfl}
def Tryz.lays157_ren:Go.Shelf.Ren:=⟨λ|157=>17|229=>33|199=>34|261=>78|311=>111|312=>112|n=>n,λ|9=>9|31=>63|3=>3|5=>5|4=>4|119=>104|0=>0|40=>106|152=>154|21=>21|154=>156|51=>157|141=>159|196=>203|193=>200|198=>206|49=>204|194=>201|201=>209|226=>237|46=>238|227=>239|n=>n,λ|0=>0|6=>1|n=>n⟩
theorem Tryz.lays157:Go.Proofs.Lays.n157 prog Tryz.lays157_ren:={
 mixed:=kR
 f157:=func17.trans (congrArg some kR)
 f199:=func34.trans (congrArg some kR)
 f229:=func33.trans (congrArg some kR)
 f261:=func78.trans (congrArg some kR)
 f311:=func111.trans (congrArg some kR)
 f312:=func112.trans (congrArg some kR)
 t0:=underlying0
 a0:=isAgg0
 z0:=sizeOf0
 v0:=zeroValue0
 t3:=underlying3
 a3:=isAgg3
 z3:=sizeOf3
 v3:=zeroValue3
 t4:=underlying4
 a4:=isAgg4
 z4:=sizeOf4
 v4:=zeroValue4
 t5:=underlying5
 a5:=isAgg5
 z5:=sizeOf5
 v5:=zeroValue5
 t9:=underlying9
 a9:=isAgg9
 z9:=sizeOf9
 v9:=zeroValue9
 t21:=underlying21
 a21:=isAgg21
 z21:=sizeOf21
 v21:=zeroValue21
 t31:=underlying63
 a31:=isAgg63
 z31:=sizeOf63
 v31:=zeroValue63
 t40:=underlying106
 a40:=isAgg106
 z40:=sizeOf106
 v40:=zeroValue106
 t46:=underlying238
 a46:=isAgg238
 z46:=sizeOf238
 v46:=zeroValue238
 t49:=underlying204
 a49:=isAgg204
 z49:=sizeOf204
 v49:=zeroValue204
 t51:=underlying157
 a51:=isAgg157
 z51:=sizeOf157
 v51:=zeroValue157
 t119:=underlying104
 a119:=isAgg104
 z119:=sizeOf104
 t141:=underlying159
 a141:=isAgg159
 z141:=sizeOf159
 v141:=zeroValue159
 t152:=underlying154
 a152:=isAgg154
 z152:=sizeOf154
 v152:=zeroValue154
 t154:=underlying156
 a154:=isAgg156
 z154:=sizeOf156
 v154:=zeroValue156
 t193:=underlying200
 a193:=isAgg200
 z193:=sizeOf200
 v193:=zeroValue200
 t194:=underlying201
 a194:=isAgg201
 z194:=sizeOf201
 v194:=zeroValue201
 t196:=underlying203
 a196:=isAgg203
 z196:=sizeOf203
 v196:=zeroValue203
 t198:=underlying206
 a198:=isAgg206
 z198:=sizeOf206
 v198:=zeroValue206
 t201:=underlying209
 a201:=isAgg209
 z201:=sizeOf209
 v201:=zeroValue209
 t226:=underlying237
 a226:=isAgg237
 z226:=sizeOf237
 v226:=zeroValue237
 t227:=underlying239
 a227:=isAgg239
 z227:=sizeOf239
 v227:=zeroValue239
 g0:=kR
 g6:=by kernel_rfl}
end Go.Proofs
namespace Go.Proofs.YtnojaendcldjpaaGreatDoor
open Go.SW Go.SP Go.RowKit Go.Shelf Go.Proofs.Tryz
theorem XB(w:wO)(f:Fq)(d:Vl w f)(i:Nat)(h:i<100):AX prog 139 #[.int .i64 (i:Int)] w (AU (α:=Unit) (λ_=>S (Lib.decDigits i)) (λ_=>True) (λ_=>[]) w f) :=
 Calls.mono (Any.strconv_Itoa_small Tryz.lays171 i h w) λ_ _ ⟨he,hw⟩=>⟨_,he,(),f,C,tQ,(by subst hw;exact C9.refl _ d),tQ⟩
theorem bxE:Builder.Extra prog Tryz.lays156_ren where
 sizeBuilder:=kR
 liesBuilder:=kR
 t5:=underlying5
 a5:=isAgg5
 z5:=sizeOf5
 v5:=zeroValue5
 infoByte:=kR
 cellsByte:=kR
 sizeByte:=kR
 neB5:=dC
theorem X9(w:wO)(f:Fq)(L:Vl w f)(bk o c:Nat)(l:List lU)(s:lU)(J:Cs w f bk o (l.map S))(O:0<l.length)(Q:l.length≤1000000)(d:l.length≤c)(hlen:(Lib.join l s).length≤140737488355328) :
   AX prog 140 #[.slice (some ⟨bk,o,none⟩) l.length c,S s] w (AU (α:=Unit) (λ_=>S (Lib.join l s)) (λ_=>True) (λ_=>[]) w f):=by
 have K:(l.map λx=>(⟨x.toArray⟩:ByteArray)).map (·.data.toList)=l:=by rw[List.map_map];exact List.map_id' l
 have G:bk<w.heap.size:=by
   obtain⟨x,D⟩:∃x,l[0]?=some x:=⟨_,List.getElem?_eq_getElem O⟩;exact Ib (J 0 (S x) (by rw[List.getElem?_map,D];rfl)).2
 have h:=Any.strings_Join Tryz.lays156 bxE bk o c (l.map λx=>⟨x.toArray⟩) ⟨s.toArray⟩ w (λj x F=>by
   rw[List.getElem?_map] at F
   cases D:l[j]? with
   |none=>rw[D] at F;cases F
   |some y=>rw[D] at F;cases F;exact (J j (S y) (by rw[List.getElem?_map,D];rfl)).2) G (by rw[List.length_map];omega) (by rw[List.length_map];exact d) (by rw[K];exact hlen)
 rw[K,List.length_map] at h;exact Calls.mono h λ_ _ ⟨he,hw⟩=>⟨_,he,(),f,C,tQ,Go.SW.Below.exm hw L _,tQ⟩
end Go.Proofs.YtnojaendcldjpaaGreatDoor
namespace Go.Proofs.YtnojaendcldjpaaGreatDoor
open Go.SW Go.SP Go.RowKit Go.Proofs.Tryz
theorem Tm(w:wO)(f:Fq)(F:Vl w f)(n:Nat)(J:n<2000) :
  AX prog 108 #[iV (n:Int)] w (AU (α:=Unit) (λ_=>S (DH n)) (λ_=>True) (λ_=>[]) w f):=by
 have G:(Lib.decDigits (n / 26)).length≤20:=by rw[← Qg 19 (n / 26) (by omega)];exact O3 20 _
 refine Ed [] func108 C C C (Be F tQ tQ)<|Aa 8 (λ_=>BN C C (λw f d=>mZ ((n % 26:Nat):Int) C C dC (by rw[Int.tmod_eq_emod_of_nonneg (by omega)];omega))<|Aa 1 (aI ⟨oM,oM⟩<|λ_=>BN C C (λw f d=>BW (m:=97+((n % 26:Nat):Int)) C gB (by unfold IntKind.wrap;simp[IntKind.bits,IntKind.signed];omega))<|BN C C (λw f d=>vU C nO (UL n))<|Aa 11 (aI (by simp <;> omega)<|λ_=>Ap 11 C C (λD=>?_) (λD=>?_))));refine Aa 4 (λ_=>BN C C (λw f d=>iD ((n / 26:Nat):Int) C C dC (by rw[Int.tdiv_eq_ediv_of_nonneg (by omega),CL (by omega)];omega))<|BO C C (eC nH C C) (λw f d=>XB w f d.vl (n / 26) oM)<|Aa 11 (aI (by simp <;> omega)<|λ_=>?_));have h:DH n=[39,UInt8.ofNat (97+n % 26)]++Lib.decDigits (n / 26):=by unfold DH;rw[if_neg (by have:=dT D;omega),Qg 19 (n / 26) (by omega)]
 exact A5 (Cb C C) (λw f d=>⟨(),f,(by rw[h];rfl),tQ,d.exm,tQ⟩);refine Aa 10 (λ_=>?_);have h:DH n=[39,UInt8.ofNat (97+n % 26)]:=by unfold DH;rw[if_pos (by have:=dF D;omega)];rfl
 exact A5 (Cb C C) (λw f d=>⟨(),f,(by rw[h];rfl),tQ,d.exm,tQ⟩)
theorem XM(m:Nat)(ih:oB prog 109 m)(w:wO)(f:Fq)(hv:Vl w f)(mb:Nat)(vs:List Int)(es:List (Int×Value))(D:CW Ez w mb es)(hL:LV vs es)(t:T1)(a:oA)(c:Nat)(hm:t.kids.size<m+1)(hsz:t.kids.size≤1000000)(F:t.bnd)(hT:Al w f t.kids a c) :
  AX prog 109 #[tV t a c,.map (some mb)] w (AU (α:=Unit) (λ_=>S (OQ vs t)) (λ_=>True) (λ_=>[]) w f):=by
 have hbl:=F.1;have L:=D.lt;refine Ed [λw f=>Al w f t.kids a c] func109 C C C (Be hv ⟨hT,tQ⟩ ⟨Al.mono,tQ⟩)<|Ae 16 [0] (λb1=>y<|λ_=>Ap 8 C C (λG=>?_) (λG=>?_));refine Ae 6 [0] (y<|λ_=>BN C C (λw f d=>RE (K:=Ez) (a:=t.num) C C eL OY qzo9 (D.heap (d.exm.stp.block mb L (λh=>h))) hL.1 (hL.get t.num))<|Aa 6 (λ_=>?_));obtain⟨n,rfl⟩:=Eo G;exact A5 (Cb C C) (λw f d=>⟨(),f,C,tQ,d.exm,tQ⟩);refine Ae 10 [0] (y<|λ_=>Ap 16 C C (λO=>?_) (λO=>?_));refine Ae 11 [0] (y<|λ_=>?_);obtain⟨tx,kk,rfl⟩:=Fe G;obtain rfl:kk=.nil:=Ty.len0 (by have Q:=beq_iff_eq.1 O;simp only[T1.kids] at Q;omega);exact A5 (Cb C C) (λw f d=>⟨(),f,(by rw[VN];rfl),tQ,d.exm,tQ⟩);refine Ae 22 [0,1] (y<|λb2=>y<|λ_=>yT 0 1 1 C C C dC ?_);refine DK (α:=Nat×Ty×List lU×oA×Nat) (λx=>x.2.1.len) (λx=>x.1+x.2.1.len=t.kids.len∧x.2.2.1.length=x.1∧D8 vs t.kids=Lib.joinTail [32] x.2.2.1++D8 vs x.2.1∧x.2.1.bnd∧x.2.1.size≤t.kids.size) (λx=>(E6 1 (.map (some mb)) 2 (pB b1) 5 (.slice x.2.2.2.1 (x.1+1) x.2.2.2.2) 27 (.slice a t.kids.len c) 28 (iV (t.kids.len:Int)) 29 (iV (x.1:Int)))) (λx=>X0 w f) (λx=>[⟨b1,tC t a c,29,true⟩]) (λx=>[⟨9,1,x.2.2.2.1,x.2.2.2.2,x.1+1,(t.tx::x.2.2.1).map S⟩]) (λx=>[]) (λx=>[λw f=>BY w f a x.1 x.2.1]) (0,t.kids,[],some ⟨b2,0,none⟩,1) ⟨by simp,C,C,F.2,Nat.le_refl _⟩ lE (λw f d=>d.more (B':=[]) (F':=[λw f=>BY w f a 0 t.kids]) nE (AR.mem ⟨Al.at d.f0,tQ⟩) (Au.mem ⟨BY.mono,tQ⟩) |>.less sR sR nE (mR [0])) ?_;rintro⟨i,r,l,ra,rc⟩ ⟨hi,hl,hk,J,hs⟩;dsimp only at hi hl hk J hs ⊢;refine Aa 6 (λ_=>Ap 30 C C (λU=>?_) (λU=>?_));refine Aa 6 (λ_=>?_);have hil:i<t.kids.len:=by have:=dT U;omega
 obtain⟨t2,r,rfl⟩:=Ty.cases1 r oM;rw[T1.len_cons] at hi;refine kH 0 C ?_;rintro⟨eb,eo,ka,kc⟩ rfl;exact Ae 11 [100,0,0,0] (aI oM<|y2<|λb3=>y<|y<|λ_=>BO C C (eC W0 C C) (λw f d=>ih w f d.vl mb vs es (D.heap (d.exm.stp.block mb L (λh=>h))) hL t2 ka kc (by have:=T1.size_cons t2 r;omega) (by have:=T1.size_cons t2 r;omega) (T1.bnd_cons.1 J).1 d.f0)<|Aa 1 (λb4=>λ_=>Dd 0 0 C C YX C C C C C C C C (λ_ _=>C) oM oM λW Y=>Aa 8 (aI ⟨oM,oM⟩<|λ_=>Ce ((i+1,r,l++[OQ vs t2],W,Y)) (show r.len<(t2.cons r).len by rw[T1.len_cons];omega) ⟨show i+1+r.len=t.kids.len by omega,show (l++[OQ vs t2]).length=i+1 by simp[hl],show D8 vs t.kids=Lib.joinTail [32] (l++[OQ vs t2])++D8 vs r by rw[hk,LI,Ul];simp,(T1.bnd_cons.1 J).2,show r.size≤t.kids.size by have:=T1.size_cons t2 r;omega⟩ lE (λw f d=>⟨_,by have Z:=d.less (H':=[⟨b1,tC t (some ⟨eb,eo,none⟩) c,29,true⟩]) (R':=[⟨9,1,W,Y,i+1+1,(t.tx::l).map S++[S (OQ vs t2)]⟩]) (B':=[]) (F':=[λw f=>BY w f (some ⟨eb,eo,none⟩) (i+1) r]) (.cons _ (.cons _ sR)) sR nE (mR [1]);rw[show (t.tx::l).map S++[S (OQ vs t2)]=(t.tx::(l++[OQ vs t2])).map S by simp] at Z;exact Z⟩))));refine Aa 3 (λ_=>Df<|Aa 3 (λ_=>?_));obtain rfl:r=.nil:=Ty.len0 (by have:=dF U;omega);rw[show D8 vs .nil=[] from C,List.append_nil] at hk;refine Kz (λw f d=>(let ⟨_,h⟩:=d.row _ (.head _);h.elim (λh=>by simp at h) (λ⟨b,q,G,O,U,_⟩=>⟨b,G,U⟩):∃b,ra=some ⟨b,0,none⟩∧i+1≤rc)) λhra=>?_;obtain⟨rb1,rfl,hrc⟩:=hra;refine bE 0 C C ?_;have hjn:Lib.join (t.tx::l) [32]=t.tx++D8 vs t.kids:=by rw[Lib.join_cons,hk]
 have hjl:(t.tx++D8 vs t.kids).length≤1100000000000:=by have G:=KK vs t.kids F.2;have O:=hbl.2;rw[List.length_append];omega
 refine Aa 2 (λ_=>CR (α:=Unit) (val:=λ_=>S (t.tx++D8 vs t.kids)) (q:=λ_=>True) (F':=λ_=>[]) C C (eC mK C C) (λw f d=>(by have Q:=X9 w f d.vl rb1 0 rc (t.tx::l) [32] d.b0 (by simp) (by simp;omega) (by simp;omega) (by rw[hjn];omega);rw[hjn,show (t.tx::l).length=i+1 by simp[hl]] at Q;exact Q)) (λx=>trivial) ?_);rintro⟨⟩ -;refine Aa 6 (aI (by simp at hjl ⊢;omega)<|aI (by simp at hjl ⊢;omega)<|λ_=>?_);obtain⟨tx,kk,rfl⟩:=Fe G;have hsc:=bP vs tx kk (by have Q:¬(kk.len:Int)=0:=(by simpa[T1.kids] using O);omega);exact A5 (Cb C C) (λw f d=>⟨(),f,(by rw[hsc];rfl),tQ,d.exm,tQ⟩)
theorem XR(w:wO)(f:Fq)(d:Vl w f)(mb:Nat)(vs:List Int)(es:List (Int×Value))(D:CW Ez w mb es)(G:LV vs es)(t:T1)(a:oA)(c:Nat)(F:t.kids.size≤1000000)(J:t.bnd)(K:Al w f t.kids a c) :
  AX prog 109 #[tV t a c,.map (some mb)] w (AU (α:=Unit) (λ_=>S (OQ vs t)) (λ_=>True) (λ_=>[]) w f) :=
 Nc (p:=oB prog 109) (λw f d mb vs es _ _ t a c h=>by omega) (λm L w f d mb vs es O Q t a c U W Y Z=>XM m L w f d mb vs es O Q t a c U W Y Z) (t.kids.size+1) w f d mb vs es D G t a c (Nat.lt_succ_self _) F J K
theorem ES(w:wO)(f:Fq)(D:Vl w f)(l:List Int)(a:oA)(c:Nat)(n:Int)(F:l.length≤1000000)(G:Cg w f l a c) :
  AX prog 136 #[.slice a l.length c,iV n] w (AU (α:=Unit) (λ_=>.bool (l.contains n)) (λ_=>True) (λ_=>[]) w f):=by
 exact Ed [λw f=>Cg w f l a c] func136 C C C (Be D ⟨G,tQ⟩ ⟨Cg.mono,tQ⟩)<|Aa 9 (λ_=>BO C C (eC VS C C) (λw f d=>M3 w f d.vl l a c n F d.f0)<|Aa 5 (λ_=>A5 (Cb C C) (λw f d=>⟨(),f,(by congr 1;cases h:D6 l n with|none=>rw[Yt,h,Pv h];rfl|some i=>rw[Yt,h,(LG h).1];simp),tQ,d.exm,tQ⟩)))
theorem eY(w:wO)(f:Fq)(D:Vl w f) :
  AX prog 98 #[] w (Ny (α:=Nat×Nat) (λx=>pB x.1) (λx=>x.1≠x.2) (λ_=>False) (λx=>MD x.1 x.2) (λx=>Bz 224 x.1 x.2 [] 0 0) (λ_=>[]) w f):=by
 exact Ed [] func98 C C C (Be D tQ tQ)<|Aa 7 (λ_=>mmp (K:=Ez) C C λm1=>Aa 6 (λb1=>λ_=>uH 0 C C<|A5 (Cb C C) (λw f d=>⟨(b1,m1),f,C,uQ d.res.2 d.res.1.2,d.exm,(λb F=>let ⟨G,J,L⟩:=d.mi b (F.elim .inr (λh=>.inl (.inr h)));L.elim (λh=>.inr ⟨h,G,J⟩) .inl),Bz.new d.res.2 d.res.1.2,tQ⟩)))
theorem Xi(w:wO)(f:Fq)(W:Vl w f)(t:T1)(a:oA)(c:Nat)(Y:t.kids.size+1≤1000)(J:t.bnd)(Z:Al w f t.kids a c) :
  AX prog 76 #[tV t a c] w (AU (α:=Unit) (λ_=>S (Pl t)) (λ_=>True) (λ_=>[]) w f):=by
 have hvl:=Gm t;have L:(An t).Nodup:=HH _ _ List.nodup_nil;refine Ed [λw f=>Al w f t.kids a c] func76 C C C (Be W ⟨Z,tQ⟩ ⟨Al.mono,tQ⟩)<|Aa 8 (λb1=>λ_=>mmp (K:=Ez) C C λm1=>Ae 7 [0] (y<|λ_=>CR C C (eC Jn C C) (λw f d=>Gn w f d.vl t a c oM J d.f0) (λx=>⟨Cg.mono,tQ⟩) ?_));rintro⟨va,vc⟩ -;refine Aa 5 (λ_=>?_);refine DK (α:=Nat×List (Int×Value)) (λx=>(An t).length-x.1) (λx=>x.1≤(An t).length∧LV ((An t).take x.1) x.2) (λx=>(E5 1 (pB b1) 3 (.map (some m1)) 8 (.slice va (An t).length vc) 9 (iV ((An t).length:Int)) 10 (iV (x.1:Int)))) (λx=>⟨λ_=>False,λb=>False∨b=m1,λw f=>True∧CW Ez w m1 x.2,w,f⟩) (λx=>[⟨b1,tC t a c,29,true⟩]) (λx=>[]) (λx=>[]) (λx=>[λw f=>Cg w f (An t) va vc,λw f=>Al w f t.kids a c]) (0,[]) ⟨Nat.zero_le _,LV.nil⟩ lE (λw f d=>d) ?_;rintro⟨i,es⟩ ⟨hi,D⟩;dsimp only at hi D ⊢;refine Aa 6 (λ_=>Ap 11 C C (λO=>?_) (λO=>?_));refine Aa 6 (λ_=>?_);have F:i<(An t).length:=by have:=dT O;omega
 obtain⟨v0,Q⟩:∃v,(An t)[i]?=some v:=⟨_,List.getElem?_eq_getElem F⟩;have G:=D.snoc (U8 L Q);refine rA 0 C Q ?_;rintro⟨b,off⟩ rfl;exact Ae 12 [100,0] (aI oM<|y2<|λ_=>BO C C (eC nJ C C) (λw f d=>Tm w f d.vl i oM)<|yJ (K:=Ez) (a:=v0) (l:=es) (I':=λw f=>True∧CW Ez w m1 ((v0,S (DH i))::es)) C C C C eL OY (.inr C) D.1 G.1 (λw f h=>h.2) (λw f w2 h d hC hm=>⟨tQ,hm⟩) (λ_ _ _ _ h _ J=>⟨tQ,h.2.heap (J _ (.inr C))⟩)<|Aa 7 (aI ⟨oM,oM⟩<|λ_=>Ce ((i+1,(v0,S (DH i))::es)) (show (An t).length-(i+1)<(An t).length-i by omega) ⟨by show i+1≤_;omega,by show LV ((An t).take (i+1)) _;rw[CZ Q];have U:=G.2;rw[List.length_take,Nat.min_eq_left (Nat.le_of_lt F)] at U;exact U⟩ lE (λw f d=>⟨_,d.less sR sR nE (λ_ h=>h)⟩)));refine Aa 3 (λ_=>Df<|Aa 3 (λ_=>?_));rw[List.take_of_length_le (by have:=dF O;omega)] at D;exact Ae 3 [0] (y<|λ_=>BO C C (eC W0 C C) (λw f d=>XR w f d.vl m1 (An t) es d.res.2 D t a c oM J d.f1)<|Aa 4 (λ_=>A5 (Cb C C) (λw f d=>⟨(),f,C,tQ,d.exm,tQ⟩)))
theorem LS(w:wO)(f:Fq)(h:Vl w f)(ln co e:Int) :
  BV prog 100 #[.agg #[iV ln,iV co],iV e] w (λ_ _=>False) (PanE 134 (λ_=>False) (λer=>er=(ln,co,e)) w f):=by
 exact TV (X:=X0 w f) (H:=[]) (R:=[]) (B:=[]) (Fs:=[]) (f:=f) func100 C C C (Be h tQ tQ)<|Ae 9 [0] (λb1=>y<|λ_=>BN C C (λw f d=>B7 C wX)<|mpan C (λw=>B2 C) (λw f d=>⟨C,(ln,co,e),f,C,C,d.exm⟩))
theorem Pd(w:wO)(f:Fq)(F:Vl w f)(b:Bool)(ln co:Int) :
  BV prog 69 #[.bool b,.agg #[iV ln,iV co]] w (AU (α:=Unit) (λ_=>.tuple #[]) (λ_=>b=true) (λ_=>[]) w f) (PanE 134 (λ_=>False) (λer=>b=false∧er=(ln,co,11)) w f):=by
 refine TV (X:=X0 w f) (H:=[]) (R:=[]) (B:=[]) (Fs:=[]) (f:=f) func69 C C C (Be F tQ tQ)<|Aa 11 (λb1=>λ_=>Ap 5 C C (λd=>?_) (λd=>?_));replace d:=B5 d;exact Ae 3 [0] (y<|λ_=>jJ C C (eC QF C C) (λ_ h=>h.elim) (λw f D=>LS w f D.vl ln co 11) (λer J f2 he G=>by subst he;exact⟨C,_,f2,C,⟨d,C⟩,G⟩));replace d:=B3 d;exact Aa 2 (λ_=>kC (λw f D=>Gz C) (λw f D=>⟨(),f,C,d,D.exm,tQ⟩))
theorem Y4(w:wO)(f:Fq)(Z:Vl w f)(A:Ad)(U:A.ok)(s:CS)(hC:AN 146 224 A s w f)(hf:∀b,Dk A b→f b=0)(hw:Im s)(t u:T1)(a:oA)(c:Nat)(a2:oA)(c2:Nat)(K:t.bnd)(L:u.bnd)(hT:Al w f t.kids a c)(hU:Al w f u.kids a2 c2)(ln co:Int) :
  BV prog 71 #[pB A.cb,tV t a c,tV u a2 c2,.agg #[iV ln,iV co]] w (EF (α:=BP) (λ_=>.tuple #[]) (λx=>H3 s t u ln co=.ok {s with sol:=x}∧Im {s with sol:=x}) (Dk A) (λx=>AN 146 224 A {s with sol:=x}) (λ_=>[]) w f) (PanE 134 (Dk A) (λer=>H3 s t u ln co=.error er) w f):=by
 refine TV (X:=XC 146 224 A s w f) (H:=[]) (R:=[]) (B:=[]) (Fs:=[λw f=>Al w f t.kids a c,λw f=>Al w f u.kids a2 c2]) (f:=f) func71 C C C (Tq Z hC hf ⟨hT,hU,tQ⟩ ⟨Al.mono,Al.mono,tQ⟩)<|Aa 8 (λb1=>λb2=>λb3=>λ_=>RL (λw=>AS w A.cb [pB A.sb,.map (some A.km),.map (some A.dm),.map (some A.rm),iV s.vars] 146) (λw f h _=>h.blk) [0,1,2] Aj (rd [0,1,2,3,4,5] (.br 6 (.rd 7 .fin) .fin)) C kR kR kR (λ_ _ _ _ _ h=>h)<|Bf 3 (λ_=>Iz C C C (λw hK=>Ai C JX hK.2.2 C)<|By 2 [2,1] (y<|y<|λ_=>Ak C<|yP λpr=>CI (α:=Int×BP×Int) (val:=λx=>iV x.1) (q:=λx=>(∀b,FL s.sol t u=.ok b→x.1=0∧x.2.1=b∧I0 b)∧∀e,FL s.sol t u=.error e→x.1=e∧e≠0) (I':=λx=>AN 146 224 A {s with sol:=x.2.1}) (F':=λ_=>[]) (XX:=λ_ _=>False) C C (eC gI C C) (λw f d=>((Vs w f d.vl A.sb A.mb s.sol s.fresh pr d.res.2 ⟨(d.mi _ (.inr (.inl C))).2.1,(d.mi _ (.inr (.inr (.inl C)))).2.1⟩ U.sm.1 hw.sol t u a c a2 c2 K L d.f0 d.f1).mono λv w2 ⟨x,f2,F,h2,W,h4,h5⟩=>⟨x,f2,F,h2,W.mono MD.c,d.res.1.solved U d.vl (λb hb=>(d.mi b (MD.c b hb)).2.1) W h4,h5⟩).retP) (λ_=>AN.stab) (λ_=>trivial) (λ_ _ _ _ _ h=>h.elim) ?_)));rintro⟨Y,s3,pr3⟩ ⟨G,D⟩;refine Aa 1 (λ_=>Bv [0,1,2] (λw f h _=>h.blk) C (λ_ h=>h)<|Bf 1 (λ_=>BG<|Aa 7 (λ_=>Ap 17 C C (λF=>?_) (λF=>?_))));refine Ae 4 [0] (y<|λ_=>?_);obtain⟨er,J⟩:∃e,FL s.sol t u=.error e:=by cases O:FL s.sol t u with|error e=>exact⟨e,C⟩|ok z=>have g9:=(G z O).1;rw[g9] at F;cases F
 obtain⟨rfl,-⟩:=D er J;exact jJ C C (eC QF C C) (λ_ h=>h.elim) (λw f d=>LS w f d.vl ln co Y) (λer w2 f2 he hE=>by subst he;exact⟨C,_,f2,C,(by rw[H3,J]),hE⟩);refine Aa 2 (λ_=>?_);obtain⟨z,hz⟩:∃z,FL s.sol t u=.ok z:=by cases O:FL s.sol t u with|ok z=>exact⟨z,C⟩|error e=>have g9:=D e O;have g8:Y=0:=(by simpa using F);exact absurd (g9.1.symm.trans g8) g9.2
 obtain⟨-,rfl,Q⟩:=G z hz;exact kC (λw f d=>Gz C) (λw f d=>⟨s3,f,C,⟨(by rw[H3,hz]),{hw with sol:=Q}⟩,d.exm,d.res,tQ⟩)
theorem G6(w:wO)(f:Fq)(L:Vl w f)(A:Ad)(Z:A.ok)(s:CS)(O:AN 146 224 A s w f)(Q:∀b,Dk A b→f b=0)(hw:Im s)(t:T1)(a:oA)(c:Nat)(G:t.bnd)(U:Al w f t.kids a c)(ln co:Int) :
  BV prog 77 #[pB A.cb,tV t a c,.agg #[iV ln,iV co]] w (EF (α:=T1×oA×Nat) (λx=>tV x.1 x.2.1 x.2.2) (λx=>IK s t ln co=.ok x.1∧x.1.bnd∧x.1.kids.size+1≤1000) (Dk A) (λ_=>AN 146 224 A s) (λx=>[λw f=>Al w f x.1.kids x.2.1 x.2.2]) w f) (PanE 134 (Dk A) (λer=>IK s t ln co=.error er) w f):=by
 refine TV (X:=XC 146 224 A s w f) (H:=[]) (R:=[]) (B:=[]) (Fs:=[λw f=>Al w f t.kids a c]) (f:=f) func77 C C C (Tq L O Q ⟨U,tQ⟩ ⟨Al.mono,tQ⟩)<|Aa 8 (λb1=>λb2=>λb3=>λ_=>RL (λw=>AS w A.cb [pB A.sb,.map (some A.km),.map (some A.dm),.map (some A.rm),iV s.vars] 146) (λw f h _=>h.blk) [0,1,2] Aj (rd [0,1,2,3,4] (.br 5 (rd [6,7,8] (.br 9 (.br 10 (.rd 11 .fin) .fin) .fin)) (.br 9 (.br 5 (rd [6,7,8] (.br 10 (.rd 11 .fin) .fin)) .fin) .fin))) C kR kR kR (λ_ _ _ _ _ h=>h)<|Bf 3 (λ_=>Iz C C C (λw W=>Ai C JX W.2.2 C)<|By 1 [2] (y<|λ_=>?_)))
 ·
  refine Cl C ?_ ?_;refine yP λpr=>CR (α:=oA×Nat) C C (eC Nf C C) (λw f d=>Ji w f d.vl A.sb A.mb s.sol s.fresh pr d.res.2 hw.sol t a c G d.f0) (λ_=>⟨Al.mono,tQ⟩) ?_;rintro⟨a2,c2⟩ -;refine Aa 1 (λ_=>Bv [0,1,2] (λw f h _=>h.1.blk) C (λ_ h=>h)<|Bf 3 (λ_=>Ak C<|Aa 2 (λb4=>λ_=>Bv [1,2,3] (λw f h _=>h.1.blk) C (λ_ h=>h) ?_)))
  rotate_left
  refine Ak C<|Aa 2 (λb4=>λ_=>Bv [1,2,3] (λw f h _=>h.blk) C (λ_ h=>h)<|Ak C<|yP λpr=>CR (α:=oA×Nat) C C (eC Nf C C) (λw f d=>Ji w f d.vl A.sb A.mb s.sol s.fresh pr d.res.2 hw.sol t a c G d.f0) (λ_=>⟨Al.mono,tQ⟩) ?_);rintro⟨a2,c2⟩ -;refine Aa 1 (λ_=>Bv [1,2,3] (λw f h _=>h.1.blk) C (λ_ h=>h)<|Bf 3 (λ_=>?_))
  all_goals
   refine Ak C<|Ae 2 [0] (y<|λ_=>Bv [1,2,3] (λw f h _=>h.1.blk) C (λ_ h=>h)<|Bf 1 (λ_=>BG<|Aa 8 (λ_=>Ap 19 C C (λD=>?_) (λD=>?_))));refine Ae 4 [2] (y<|λ_=>?_);have F:DC s.sol t=none:=by cases J:DC s.sol t with|none=>rfl|some z=>rw[J] at D;cases D
   rw[F];exact jJ C C (eC QF C C) (λ_ h=>h.elim) (λw f d=>LS w f d.vl ln co 4) (λer w2 f2 he Y=>by subst he;exact⟨C,_,f2,C,(by rw[IK,F]),Y⟩);refine Ae 10 [0,1] (y<|y<|λ_=>?_);obtain⟨z,hz⟩:∃z,DC s.sol t=some z:=by cases J:DC s.sol t with|some z=>exact⟨z,C⟩|none=>rw[J] at D;cases D
   exact A5 (λw f d=>Ao C (Ab C CA d.k1 C)) (λw f d=>⟨(z,a2,c2),f,(by rw[hz];rfl),⟨(by rw[IK,hz]),Mq hw.sol G hz,Kl hz⟩,d.exm,d.res.1,⟨by have K:=d.f0;rw[hz] at K;exact K,tQ⟩⟩)

theorem PS(w:wO)(f:Fq)(Y:Vl w f)(A:Ad)(O:A.ok)(s:CS)(Z:AN 146 224 A s w f)(hf:∀b,Dk A b→f b=0)(hw:Im s)(l:List Int)(la:oA)(lc:Nat)(hl:l.length≤200000)(hfb:s.fresh+l.length≤900000000000) :
  AX prog 159 #[pB A.cb,.slice la l.length lc] w (EF (α:=oA×Nat) (λx=>.slice x.1 (CX l s).1.len x.2) (λ_=>True) (Dk A) (λ_=>AN 146 224 A (CX l s).2) (λx=>[λw f=>Al w f (CX l s).1 x.1 x.2]) w f):=by
 have Q:=hw.fr;refine Gb (X:=XC 146 224 A s w f) (H:=[]) (R:=[]) (B:=[]) (Fs:=[]) (f:=f) func159 C C C (Tq Y Z hf tQ tQ)<|Aa 19 (λ_=>LY 29 4 ?_);refine DK (α:=Nat×lV×oA×Nat) (λx=>l.length-x.1) (λx=>x.1≤l.length) (λx=>(E4 0 (pB A.cb) 5 (.slice x.2.2.1 x.1 x.2.2.2) 7 (iV (l.length:Int)) 8 (iV (x.1:Int)))) (λx=>⟨Dk A,Dk A,AN 146 224 A {s with fresh:=s.fresh+(x.1:Nat)},w,f⟩) (λx=>[]) (λx=>[⟨29,4,x.2.2.1,x.2.2.2,x.1,x.2.1⟩]) (λx=>[]) (λx=>[λw f=>Cr w f (Eb s.fresh x.1) x.2.1]) (0,[],none,0) (Nat.zero_le _) lE (λw f d=>(by have D:=d.more (B':=[]) (F':=[λw f=>Cr w f (Eb s.fresh 0) []]) nE (AR.mem ⟨C,tQ⟩) (Au.mem ⟨Cr.mono,tQ⟩);rw[show s={s with fresh:=s.fresh+(0:Nat)} by simp] at D;exact D)) ?_;rintro⟨i,xs,U,rc⟩ hi;dsimp only at hi ⊢;refine Aa 6 (λ_=>Ap 9 C C (λF=>?_) (λF=>?_));refine Aa 5 (λ_=>?_);have hil:i<l.length:=by have:=dT F;omega
 refine Aa 5 (λ_=>BN C C (λw f d=>Ai C JX d.res.blk C)<|yP λpr=>CI (α:=Unit) (val:=λ_=>tV (.var (({s with fresh:=s.fresh+(i:Nat)}:CS).fresh+1)) none 0) (q:=λ_=>True) (I':=λ_=>AN 146 224 A { ({s with fresh:=s.fresh+(i:Nat)}:CS) with fresh:=({s with fresh:=s.fresh+(i:Nat)}:CS).fresh+1}) (F':=λ_=>[]) (XX:=λ_ _=>False) C C (eC Qr C C) (λw f d=>((O1 w f d.vl A.sb A.mb _ _ pr d.res.2 ⟨(d.mi _ (.inr (.inl C))).2.1,(d.mi _ (.inr (.inr (.inl C)))).2.1⟩ O.sm.1 (by constructor <;> (simp only;omega))).mono λv w2 ⟨x,f2,F,h2,W,h4,h5⟩=>⟨x,f2,F,h2,W.mono MD.c,d.res.1.solved O d.vl (λb hb=>(d.mi b (MD.c b hb)).2.1) W h4,h5⟩).retP) (λ_=>AN.stab) (λ_=>trivial) (λ_ _ _ _ _ h=>h.elim) ?_);rintro⟨⟩ -;exact Aa 1 (λb1=>λ_=>Dd 0 0 C C I1 C C C C C C C C (λ_ _=>C) oM oM λJ K=>Aa 8 (aI ⟨oM,oM⟩<|λ_=>Ce ((i+1,xs++tC (.var (s.fresh+i+1)) none 0,J,K)) (show l.length-(i+1)<l.length-i by omega) (show i+1≤l.length by omega) lE (λw f d=>⟨_,by have D:=(d.more (B':=[]) (F':=[λw f=>Cr w f (Eb s.fresh (i+1)) (xs++tC (.var (s.fresh+i+1)) none 0)]) nE (AR.mem ⟨by rw[Mx];exact Cr.snoc (Al.nil _ _ _ _) d.f0,tQ⟩) (Au.mem ⟨Cr.mono,tQ⟩)).less (H':=[]) (List.nil_sublist _) sR (B':=[]) nE (F':=[λw f=>Cr w f (Eb s.fresh (i+1)) (xs++tC (.var (s.fresh+i+1)) none 0)]) (mR [0]);rw[show s.fresh+(i:Int)+1=s.fresh+((i+1:Nat):Int) by omega] at D ⊢;exact D⟩)));refine Aa 3 (λ_=>Df<|Aa 3 (λ_=>?_));obtain rfl:i=l.length:=by have:=dF F;omega
 refine Aa 6 (λ_=>?_);have G:(CX l s).1.len=l.length:=by rw[Cy];exact G3 _ _
 rcases Nat.eq_zero_or_pos l.length with L|L
 · exact A5 (Cb C C) (λw f d=>⟨(U,rc),f,(by rw[G]),tQ,d.exm,(by rw[Cy];exact d.res),⟨by rw[Cy];show Al _ _ (Eb s.fresh l.length) _ _;rw[L];exact Al.nil _ _ _ _,tQ⟩⟩)
 · exact A5 (Cb C C) (λw f d=>let ⟨f2,D,hF⟩:=R9 d d.f0 (by rw[G3];exact L);⟨(U,rc),f2,(by rw[G]),tQ,D.exm,(by rw[Cy];exact D.res),⟨by rw[Cy];exact hF,tQ⟩⟩)
end Go.Proofs.YtnojaendcldjpaaGreatDoor
namespace Go.Proofs.YtnojaendcldjpaaGreatDoor
open Go.SW Go.SP Go.RowKit
end Go.Proofs.YtnojaendcldjpaaGreatDoor
namespace Go.Proofs.YtnojaendcldjpaaGreatDoor
open Go.SW Go.SP Go.RowKit Go.Proofs.Tryz
theorem Yg(w:wO)(f:Fq)(hv:Vl w f)(A:Ad)(hA:A.ok)(s:CS)(hC:AN 146 224 A s w f)(hf:∀b,Dk A b→f b=0)(hw:Im s)(op ln co nm:Int)(tx:lU)(kids:Nd)(na:oA)(nc:Nat)(e:BJ)(ea:oA)(heB:JI e)(hE:BC w f e ea)(hfb:s.fresh≤800000000000) :
  BV prog 132 #[pB A.cb,.agg #[iV op,iV ln,iV co,S tx,iV nm,.slice na kids.len nc],.pointer ea] w (EF (α:=(T1×oA×Nat)×CS) (λx=>tV x.1.1 x.1.2.1 x.1.2.2) (λx=>Ik s e tx ln co=.ok (x.1.1,x.2)∧x.1.1.bnd∧Im x.2∧x.2.fresh≤s.fresh+200000) (Dk A) (λx=>AN 146 224 A x.2) (λx=>[λw f=>Al w f x.1.1.kids x.1.2.1 x.1.2.2]) w f) (PanE 134 (Dk A) (λer=>Ik s e tx ln co=.error er) w f):=by
 refine TV (X:=XC 146 224 A s w f) (H:=[]) (R:=[]) (B:=[]) (Fs:=[λw f=>BC w f e ea]) (f:=f) func132 C C C (Tq hv hC hf ⟨hE,tQ⟩ ⟨BC.mono,tQ⟩)<|Aa 8 (λb1=>λb2=>λ_=>?_);refine DK (α:=BJ×oA) (λx=>x.1.length) (λx=>Ou e tx=Ou x.1 tx∧JI x.1) (λx=>(E4 0 (pB A.cb) 2 (.pointer x.2) 4 (pB b1) 6 (pB b2))) (λx=>⟨Dk A,Dk A,AN 146 224 A s,w,f⟩) (λx=>[⟨b2,zT,29,true⟩,⟨b1,[iV op,iV ln,iV co,S tx,iV nm,.slice na kids.len nc],101,true⟩]) (λx=>[]) (λx=>[]) (λx=>[λw f=>BC w f x.1 x.2]) (e,ea) ⟨C,heB⟩ lE (λw f D=>D) ?_;rintro⟨e2,ea⟩ ⟨hfi,heb⟩;dsimp only at hfi heb ⊢;refine Aa 2 (λ_=>?_)
 cases e2 with
 |nil =>
  refine Kz (λw f D=>(D.f0:ea=none)) λhea=>?_;subst hea;exact RL (λw=>AS w A.cb [pB A.sb,.map (some A.km),.map (some A.dm),.map (some A.rm),iV s.vars] 146) (λw f h _=>h.blk) [0,1] Aj (rd [0,1,2,3,4,5,6,7,8,9,10] .fin) C kR kR kR (λ_ _ _ _ _ h=>h)<|Bf 11 (λ_=>BG<|Aa 4 (λ_=>Df<|Ae 8 [1] (y<|λ_=>jJ C C (eC Y0 C C) (λ_ h=>h.elim) (λw f D=>(Pd w f D.vl false ln co).mono (λ_ _ ⟨_,_,_,h,_⟩=>by cases h) λ_ _ h=>h) (λer w2 f2 he hE=>⟨C,er,f2,C,(by rw[Ik,hfi,he.2];rfl),hE⟩))))
 |cons b e3 =>
  refine Hh (α:=Nat×oA×Nat×oA×Nat×oA) (λx=>ea=some ⟨x.1,0,none⟩) (λx=>[⟨x.1,0,S b.name::(tC b.t x.2.1 x.2.2.1++[.slice x.2.2.2.1 b.all.length x.2.2.2.2.1,.pointer x.2.2.2.2.2])⟩]) (λx=>[λw f=>Al w f b.t.kids x.2.1 x.2.2.1,λw f=>Cg w f b.all x.2.2.2.1 x.2.2.2.2.1,λw f=>BC w f e3 x.2.2.2.2.2]) (λw f D=>let ⟨k,ta,tc,va,vc,L,h1,h2,U,h4,h5⟩:=D.f0;⟨(k,ta,tc,va,vc,L),h1,(oE h2),AR.mem ⟨U,h4,h5,tQ⟩⟩) (λx=>Au.mem ⟨Al.mono,Cg.mono,BC.mono,tQ⟩) ?_;rintro⟨ek,eta,etc,O,Q,era⟩ rfl;refine RL (λw=>AS w A.cb [pB A.sb,.map (some A.km),.map (some A.dm),.map (some A.rm),iV s.vars] 146) (λw f h _=>h.blk) [0,1] Aj (rd [0,1,2,3,4,5,6,7,8,9,10] .fin) C kR kR kR (λ_ _ _ _ _ h=>h)<|By 11 [100,0,1] (y2<|y<|λ_=>BG<|Aa 1 (λ_=>Ap 21 C C (λh1=>?_) (λh1=>?_)));exact Ae 12 [100,6] (y2<|λ_=>Ce ((e3,era)) (show e3.length<(b::e3).length from Nat.lt_succ_self _) ⟨hfi.trans (by show (if b.name==tx then some b else Ou e3 tx)=_;rw[if_neg (by have F:(!(b.name==tx))=true:=h1;intro h8;rw[h8] at F;cases F)]),λb2 hb2=>heb b2 (.tail _ hb2)⟩ lE (λw f D=>⟨_,D.less sR sR nE (mR [2])⟩));refine Aa 3 (λ_=>Df<|Ae 8 [1] (y<|λ_=>XO (α:=Unit) (val:=λ_=>.tuple #[]) (q:=λ_=>True) (I':=λ_=>AN 146 224 A s) (F':=λ_=>[]) (pe:=λer=>False) (M:=λ_=>False) (T:=134) C C (eC Y0 C C) (λ_ h=>h.elim) (λw f D=>(Pd w f D.vl true ln co).mono (λ_ _ ⟨x,f2,h1,h2,U,h4⟩=>⟨x,f2,h1,tQ,U.mono (λ_ h=>h.elim),(D.call0 U).res,h4⟩) λ_ _ ⟨_,_,_,h,_⟩=>by cases h.1) (λ_=>AN.stab) (λ_=>trivial) (λer w2 f2 he hE=>he.elim) ?_));rintro⟨⟩ -;have K:Ou e tx=some b:=hfi.trans (by show (if b.name==tx then some b else Ou e3 tx)=_;rw[if_pos (by have F:(!(b.name==tx))=false:=h1;cases h8:(b.name==tx) with|true=>rfl|false=>rw[h8] at F;cases F)]);obtain⟨hbb,hba⟩:=heb b (.head _);refine Aa 3 (λ_=>RL (λw=>AS w A.cb [pB A.sb,.map (some A.km),.map (some A.dm),.map (some A.rm),iV s.vars] 146) (λw f h _=>h.blk) [0,1] Aj (rd [0,1,2,3,4,5,6,7] (.br 8 (.br 9 (.br 10 .fin .fin) .fin) (.br 9 (.br 8 (.br 10 .fin .fin) .fin) .fin))) C kR kR kR (λ_ _ _ _ _ h=>h)<|By 8 [100,1,1] (y2<|y<|λ_=>Cl C ?_ ?_));refine XO C C (eC OK C C) (λ_ h=>h) (λw f D=>G6 w f D.vl A hA s D.res D.mz hw b.t eta etc hbb D.f0 ln co) (λ_=>AN.stab) (λ_=>⟨Al.mono,tQ⟩) (λer w2 f2 he hE=>⟨C,er,f2,C,(by rw[Ik,K];simp only;rw[he]),hE⟩) ?_;rintro⟨d,fa,fc⟩ ⟨W,G,Y⟩;dsimp only at W G Y ⊢;refine Aa 1 (λ_=>Bv [0,1] (λw f h _=>h.blk) C (λ_ h=>h)<|Ak C<|Aa 2 (λb3=>λ_=>Bv [1,2] (λw f h _=>h.blk) C (λ_ h=>h)<|Ak C<|Ae 2 [0] (y<|λ_=>Bv [1,2] (λw f h _=>h.blk) C (λ_ h=>h)<|BG<|Ae 10 [0] (y<|λ_=>?_))));refine CR C C (eC Jn C C) (λw f D=>Gn w f D.vl d fa fc oM G D.f0) (λx=>⟨Cg.mono,tQ⟩) ?_;rintro⟨va,vc⟩ -;have hvl:=Gm d;refine Aa 5 (λ_=>LY 3 1 ?_)
  refine DK (α:=Nat×oA×Nat) (λx=>(An d).length-x.1) (λx=>x.1≤(An d).length) (λx=>(E9 0 (pB A.cb) 2 (pB ek) 4 (pB b1) 6 (pB b2) 7 (pB b3) 8 (.slice x.2.1 (((An d).take x.1).filter λv=>b.all.contains v).length x.2.2) 41 (.slice va (An d).length vc) 42 (iV ((An d).length:Int)) 43 (iV (x.1:Int)))) (λx=>⟨Dk A,Dk A,AN 146 224 A s,w,f⟩) (λx=>[⟨b3,tC d fa fc,29,true⟩,⟨b2,zT,29,true⟩,⟨b1,[iV op,iV ln,iV co,S tx,iV nm,.slice na kids.len nc],101,true⟩]) (λx=>[⟨3,1,x.2.1,x.2.2,(((An d).take x.1).filter λv=>b.all.contains v).length,(((An d).take x.1).filter λv=>b.all.contains v).map λn=>iV n⟩]) (λx=>[⟨ek,0,S b.name::(tC b.t eta etc++[Value.slice O b.all.length Q,Value.pointer era])⟩]) (λx=>[λw f=>Cg w f (An d) va vc,λw f=>Al w f d.kids fa fc,λw f=>Cg w f b.all O Q]) (0,none,0) (Nat.zero_le _) lE (λw f D=>D.less sR sR (λ_ h=>h) (mR [0,1,3])) ?_;rintro⟨i,L,rc⟩ hi;dsimp only at hi ⊢;have hfl2:(((An d).take i).filter λv=>b.all.contains v).length≤i:=Nat.le_trans (List.length_filter_le _ _) (by rw[List.length_take];exact Nat.min_le_left _ _);refine Aa 6 (λ_=>Ap 44 C C (λh2=>?_) (λh2=>?_));refine Aa 6 (λ_=>?_);have hil:i<(An d).length:=by have:=dT h2;omega
  obtain⟨v0,hx⟩:∃v,(An d)[i]?=some v:=⟨_,List.getElem?_eq_getElem hil⟩;refine rA 0 C hx ?_;rintro⟨vb,voff⟩ rfl;refine Ae 14 [100,0,101,5] (aI oM<|y2<|y2<|λ_=>BO C C (eC Nj C C) (λw f D=>ES w f D.vl b.all O Q v0 hba D.f2)<|Aa 2 (λ_=>Ap 53 C C (λU=>?_) (λU=>?_)));refine Aa 5 (λb4=>λ_=>Dd 0 0 C C QH C C C C C C C C (λ_ _=>C) oM oM λZ rc2=>Aa 8 (aI ⟨oM,oM⟩<|λ_=>?_));have J:(((An d).take (i+1)).filter λv=>b.all.contains v)=(((An d).take i).filter λv=>b.all.contains v)++[v0]:=by rw[CZ hx,List.filter_append];have F:v0∈b.all:=(by simpa using U);simp[F]
  exact Ce ((i+1,Z,rc2)) (show (An d).length-(i+1)<(An d).length-i by omega) (show i+1≤_ by omega) (fH C C C C C (Eq.trans (b:=some (Value.slice Z ((((An d).take i).filter λv=>b.all.contains v).length+1) rc2)) C (by dsimp only;rw[J];simp)) C C C) (λw f D=>⟨_,by dsimp only;rw[J];rw[List.length_append,List.map_append];exact D.less (.cons _ sR) sR (λ_ h=>by rcases List.mem_cons.1 h with rfl|h;exact .tail _ (.head _);cases h) (mR [0,1,2])⟩);refine Aa 8 (aI ⟨oM,oM⟩<|λ_=>?_);have J:(((An d).take (i+1)).filter λv=>b.all.contains v)=(((An d).take i).filter λv=>b.all.contains v):=by rw[CZ hx,List.filter_append];have F:v0∉b.all:=(by simpa using U);simp[F]
  exact Ce ((i+1,L,rc)) (show (An d).length-(i+1)<(An d).length-i by omega) (show i+1≤_ by omega) (fH C C C C C (Eq.trans (b:=some (Value.slice L (((An d).take i).filter λv=>b.all.contains v).length rc)) C (by dsimp only;rw[J])) C C C) (λw f D=>⟨_,by dsimp only;rw[J];skip;exact D.less sR sR (λ_ h=>by rcases List.mem_cons.1 h with rfl|h;exact .tail _ (.head _);cases h) (mR [0,1,2])⟩);refine Aa 3 (λ_=>Df<|Aa 3 (λ_=>?_));obtain rfl:i=(An d).length:=by have:=dF h2;omega
  rw[List.take_length] at *;refine Xg (λw f=>Cg w f ((An d).filter λv=>b.all.contains v) L rc) Cg.mono (λw f D=>R4 D)<|RL (λw=>AS w A.cb [pB A.sb,.map (some A.km),.map (some A.dm),.map (some A.rm),iV s.vars] 146) (λw f h _=>h.blk) [0,2] Aj (rd [0,1,2,3] (.br 4 (.br 5 (.br 6 .fin .fin) .fin) .fin)) C kR kR kR (λ_ _ _ _ _ h=>h)<|By 4 [0] (y<|λ_=>Ak C<|CI (XX:=λ_ _=>False) C C (eC WW C C) (λw f D=>(PS w f D.vl A hA s D.res D.mz hw ((An d).filter λv=>b.all.contains v) L rc oM oM).retP) (λ_=>AN.stab) (λ_=>⟨Al.mono,tQ⟩) (λ_ _ _ _ _ h=>h.elim) ?_);rintro⟨na2,nc2⟩ -;have hnl:(CX ((An d).filter λv=>b.all.contains v) s).1.len=((An d).filter λv=>b.all.contains v).length:=by rw[Cy];exact G3 _ _
  have hnb:(CX ((An d).filter λv=>b.all.contains v) s).1.bnd:=by rw[Cy];exact JZ _ _
  refine Aa 1 (λ_=>Bv [0,2] (λw f h _=>(by have F:=h.blk;rw[Cy] at F;exact F)) C (λ_ h=>h)<|Ak C<|CR C C (eC En C C) (λw f D=>Cw w f D.vl ((An d).filter λv=>b.all.contains v) L rc (CX ((An d).filter λv=>b.all.contains v) s).1 na2 nc2 oM oM hnb D.f1 D.f0 d fa fc G D.f3) (λx=>⟨Al.mono,tQ⟩) ?_);rintro⟨a3,c3⟩ -;refine Aa 1 (λ_=>Bv [0,2] (λw f h _=>(by have F:=h.blk;rw[Cy] at F;exact F)) C (λ_ h=>h)<|Ak C<|Ae 2 [1] (y<|λ_=>Bv [0,2] (λw f h _=>(by have F:=h.blk;rw[Cy] at F;exact F)) C (λ_ h=>h)<|BG<|Aa 2 (λ_=>?_)));have hlk:Ik s e tx ln co=.ok (Dj d ((An d).filter λv=>b.all.contains v) (CX ((An d).filter λv=>b.all.contains v) s).1,(CX ((An d).filter λv=>b.all.contains v) s).2):=by rw[Ik,K];simp only;rw[W]
  exact A5 (λw f D=>Ao C (Ab C CA D.k1 C)) (λw f D=>⟨((Dj d ((An d).filter λv=>b.all.contains v) (CX ((An d).filter λv=>b.all.contains v) s).1,a3,c3),(CX ((An d).filter λv=>b.all.contains v) s).2),f,C,⟨hlk,N6 hnb G,(by rw[Cy];exact hw.fresh (by have:=hw.fr;omega)),(by rw[Cy];show s.fresh+_≤_;omega)⟩,D.exm,D.res,⟨D.f0,tQ⟩⟩);refine Ak C<|Aa 2 (λb3=>λ_=>Bv [1,2] (λw f h _=>h.blk) C (λ_ h=>h)<|Ak C<|XO C C (eC OK C C) (λ_ h=>h) (λw f D=>G6 w f D.vl A hA s D.res D.mz hw b.t eta etc hbb D.f0 ln co) (λ_=>AN.stab) (λ_=>⟨Al.mono,tQ⟩) (λer w2 f2 he hE=>⟨C,er,f2,C,(by rw[Ik,K];simp only;rw[he]),hE⟩) ?_);rintro⟨d,fa,fc⟩ ⟨W,G,Y⟩;dsimp only at W G Y ⊢;refine Aa 1 (λ_=>Bv [1,2] (λw f h _=>h.blk) C (λ_ h=>h)<|Ak C<|Ae 2 [0] (y<|λ_=>Bv [1,2] (λw f h _=>h.blk) C (λ_ h=>h)<|BG<|Ae 10 [0] (y<|λ_=>CR C C (eC Jn C C) (λw f D=>Gn w f D.vl d fa fc oM G D.f0) (λx=>⟨Cg.mono,tQ⟩) ?_)));rintro⟨va,vc⟩ -;have hvl:=Gm d;refine Aa 5 (λ_=>LY 3 1 ?_);refine DK (α:=Nat×oA×Nat) (λx=>(An d).length-x.1) (λx=>x.1≤(An d).length) (λx=>(E9 0 (pB A.cb) 2 (pB ek) 4 (pB b1) 6 (pB b2) 7 (pB b3) 8 (.slice x.2.1 (((An d).take x.1).filter λv=>b.all.contains v).length x.2.2) 41 (.slice va (An d).length vc) 42 (iV ((An d).length:Int)) 43 (iV (x.1:Int)))) (λx=>⟨Dk A,Dk A,AN 146 224 A s,w,f⟩) (λx=>[⟨b3,tC d fa fc,29,true⟩,⟨b2,zT,29,true⟩,⟨b1,[iV op,iV ln,iV co,S tx,iV nm,.slice na kids.len nc],101,true⟩]) (λx=>[⟨3,1,x.2.1,x.2.2,(((An d).take x.1).filter λv=>b.all.contains v).length,(((An d).take x.1).filter λv=>b.all.contains v).map λn=>iV n⟩]) (λx=>[⟨ek,0,S b.name::(tC b.t eta etc++[Value.slice O b.all.length Q,Value.pointer era])⟩]) (λx=>[λw f=>Cg w f (An d) va vc,λw f=>Al w f d.kids fa fc,λw f=>Cg w f b.all O Q]) (0,none,0) (Nat.zero_le _) lE (λw f D=>D.less sR sR (λ_ h=>h) (mR [0,1,3])) ?_;rintro⟨i,L,rc⟩ hi;dsimp only at hi ⊢;have hfl2:(((An d).take i).filter λv=>b.all.contains v).length≤i:=Nat.le_trans (List.length_filter_le _ _) (by rw[List.length_take];exact Nat.min_le_left _ _);refine Aa 6 (λ_=>Ap 44 C C (λh2=>?_) (λh2=>?_));refine Aa 6 (λ_=>?_);have hil:i<(An d).length:=by have:=dT h2;omega
  obtain⟨v0,hx⟩:∃v,(An d)[i]?=some v:=⟨_,List.getElem?_eq_getElem hil⟩;refine rA 0 C hx ?_;rintro⟨vb,voff⟩ rfl;refine Ae 14 [100,0,101,5] (aI oM<|y2<|y2<|λ_=>BO C C (eC Nj C C) (λw f D=>ES w f D.vl b.all O Q v0 hba D.f2)<|Aa 2 (λ_=>Ap 53 C C (λU=>?_) (λU=>?_)));refine Aa 5 (λb4=>λ_=>Dd 0 0 C C QH C C C C C C C C (λ_ _=>C) oM oM λZ rc2=>Aa 8 (aI ⟨oM,oM⟩<|λ_=>?_));have J:(((An d).take (i+1)).filter λv=>b.all.contains v)=(((An d).take i).filter λv=>b.all.contains v)++[v0]:=by rw[CZ hx,List.filter_append];have F:v0∈b.all:=(by simpa using U);simp[F]
  exact Ce ((i+1,Z,rc2)) (show (An d).length-(i+1)<(An d).length-i by omega) (show i+1≤_ by omega) (fH C C C C C (Eq.trans (b:=some (Value.slice Z ((((An d).take i).filter λv=>b.all.contains v).length+1) rc2)) C (by dsimp only;rw[J];simp)) C C C) (λw f D=>⟨_,by dsimp only;rw[J];rw[List.length_append,List.map_append];exact D.less (.cons _ sR) sR (λ_ h=>by rcases List.mem_cons.1 h with rfl|h;exact .tail _ (.head _);cases h) (mR [0,1,2])⟩);refine Aa 8 (aI ⟨oM,oM⟩<|λ_=>?_);have J:(((An d).take (i+1)).filter λv=>b.all.contains v)=(((An d).take i).filter λv=>b.all.contains v):=by rw[CZ hx,List.filter_append];have F:v0∉b.all:=(by simpa using U);simp[F]
  exact Ce ((i+1,L,rc)) (show (An d).length-(i+1)<(An d).length-i by omega) (show i+1≤_ by omega) (fH C C C C C (Eq.trans (b:=some (Value.slice L (((An d).take i).filter λv=>b.all.contains v).length rc)) C (by dsimp only;rw[J])) C C C) (λw f D=>⟨_,by dsimp only;rw[J];skip;exact D.less sR sR (λ_ h=>by rcases List.mem_cons.1 h with rfl|h;exact .tail _ (.head _);cases h) (mR [0,1,2])⟩);refine Aa 3 (λ_=>Df<|Aa 3 (λ_=>?_));obtain rfl:i=(An d).length:=by have:=dF h2;omega
  rw[List.take_length] at *;refine Xg (λw f=>Cg w f ((An d).filter λv=>b.all.contains v) L rc) Cg.mono (λw f D=>R4 D)<|RL (λw=>AS w A.cb [pB A.sb,.map (some A.km),.map (some A.dm),.map (some A.rm),iV s.vars] 146) (λw f h _=>h.blk) [0,2] Aj (rd [0,1,2,3] (.br 4 (.br 5 (.br 6 .fin .fin) .fin) .fin)) C kR kR kR (λ_ _ _ _ _ h=>h)<|By 4 [0] (y<|λ_=>Ak C<|CI (XX:=λ_ _=>False) C C (eC WW C C) (λw f D=>(PS w f D.vl A hA s D.res D.mz hw ((An d).filter λv=>b.all.contains v) L rc oM oM).retP) (λ_=>AN.stab) (λ_=>⟨Al.mono,tQ⟩) (λ_ _ _ _ _ h=>h.elim) ?_);rintro⟨na2,nc2⟩ -;have hnl:(CX ((An d).filter λv=>b.all.contains v) s).1.len=((An d).filter λv=>b.all.contains v).length:=by rw[Cy];exact G3 _ _
  have hnb:(CX ((An d).filter λv=>b.all.contains v) s).1.bnd:=by rw[Cy];exact JZ _ _
  refine Aa 1 (λ_=>Bv [0,2] (λw f h _=>(by have F:=h.blk;rw[Cy] at F;exact F)) C (λ_ h=>h)<|Ak C<|CR C C (eC En C C) (λw f D=>Cw w f D.vl ((An d).filter λv=>b.all.contains v) L rc (CX ((An d).filter λv=>b.all.contains v) s).1 na2 nc2 oM oM hnb D.f1 D.f0 d fa fc G D.f3) (λx=>⟨Al.mono,tQ⟩) ?_);rintro⟨a3,c3⟩ -;refine Aa 1 (λ_=>Bv [0,2] (λw f h _=>(by have F:=h.blk;rw[Cy] at F;exact F)) C (λ_ h=>h)<|Ak C<|Ae 2 [1] (y<|λ_=>Bv [0,2] (λw f h _=>(by have F:=h.blk;rw[Cy] at F;exact F)) C (λ_ h=>h)<|BG<|Aa 2 (λ_=>?_)));have hlk:Ik s e tx ln co=.ok (Dj d ((An d).filter λv=>b.all.contains v) (CX ((An d).filter λv=>b.all.contains v) s).1,(CX ((An d).filter λv=>b.all.contains v) s).2):=by rw[Ik,K];simp only;rw[W]
  exact A5 (λw f D=>Ao C (Ab C CA D.k1 C)) (λw f D=>⟨((Dj d ((An d).filter λv=>b.all.contains v) (CX ((An d).filter λv=>b.all.contains v) s).1,a3,c3),(CX ((An d).filter λv=>b.all.contains v) s).2),f,C,⟨hlk,N6 hnb G,(by rw[Cy];exact hw.fresh (by have:=hw.fr;omega)),(by rw[Cy];show s.fresh+_≤_;omega)⟩,D.exm,D.res,⟨D.f0,tQ⟩⟩)
theorem Yp(w:wO)(f:Fq)(hv:Vl w f)(A:Ad)(hA:A.ok)(s:CS)(hC:AN 146 224 A s w f)(hf:∀b,Dk A b→f b=0)(hw:Im s)(e:BJ)(ea:oA)(heB:JI e)(hE:BC w f e ea) :
  AX prog 103 #[pB A.cb,.pointer ea] w (Ny (α:=Nat×List Int) (λx=>.map (some x.1)) (λx=>¬Dk A x.1∧x.2.Nodup∧∀n,x.2.contains n=(Br s e).contains n) (Dk A) (λx b=>Dk A b∨b=x.1) (λx=>Lj 146 224 A s x.1 x.2) (λ_=>[]) w f):=by
 refine Gb (X:=XC 146 224 A s w f) (H:=[]) (R:=[]) (B:=[]) (Fs:=[λw f=>BC w f e ea]) (f:=f) func103 C C C (Tq hv hC hf ⟨hE,tQ⟩ ⟨BC.mono,tQ⟩)<|Aa 7 (λ_=>lJ (K:=Ez) C C λmb hmn=>Aa 5 (λ_=>?_));refine DK (α:=BJ×oA×List Int) (λx=>x.1.length) (λx=>x.2.2.Nodup∧(∀n,(x.2.2.contains n||(Br s x.1).contains n)=(Br s e).contains n)∧JI x.1) (λx=>(E3 0 (pB A.cb) 1 (.pointer x.2.1) 5 (.map (some mb)))) (λx=>⟨Dk A,λb=>Dk A b∨b=mb,Lj 146 224 A s mb x.2.2,w,f⟩) (λx=>[]) (λx=>[]) (λx=>[]) (λx=>[λw f=>BC w f x.1 x.2.1]) (e,ea,[]) ⟨List.nodup_nil,λn=>by simp,heB⟩ lE (λw f d=>d) ?_;rintro⟨e2,ea,ll⟩ ⟨hnd,hq,heb⟩;dsimp only at hnd hq heb ⊢;refine Aa 2 (λ_=>?_)
 cases e2 with
 |nil =>
  refine Kz (λw f d=>(d.f0:ea=none)) λhea=>?_;subst hea;refine Aa 8 (λ_=>Df<|Aa 9 (λ_=>?_));have hq5:∀n,ll.contains n=(Br s e).contains n:=λn=>by have G:=hq n;simpa[Br] using G
  exact A5 (Cb C C) (λw f d=>⟨(mb,ll),f,C,⟨hmn,hnd,hq5⟩,d.exm,(λb hb=>let ⟨W,h2,O⟩:=d.mi b hb;O.elim (λh=>.inr ⟨h,W,h2⟩) .inl),d.res,tQ⟩)
 |cons b J =>
  refine Hh (α:=Nat×oA×Nat×oA×Nat×oA) (λx=>ea=some ⟨x.1,0,none⟩) (λx=>[⟨x.1,0,S b.name::(tC b.t x.2.1 x.2.2.1++[.slice x.2.2.2.1 b.all.length x.2.2.2.2.1,.pointer x.2.2.2.2.2])⟩]) (λx=>[λw f=>Al w f b.t.kids x.2.1 x.2.2.1,λw f=>Cg w f b.all x.2.2.2.1 x.2.2.2.2.1,λw f=>BC w f J x.2.2.2.2.2]) (λw f d=>let ⟨k,ta,tc,va,vc,ra,W,h2,O,h4,h5⟩:=d.f0;⟨(k,ta,tc,va,vc,ra),W,(oE h2),AR.mem ⟨O,h4,h5,tQ⟩⟩) (λx=>Au.mem ⟨Al.mono,Cg.mono,BC.mono,tQ⟩) ?_;rintro⟨ek,eta,etc,eva,evc,era⟩ rfl;obtain⟨hbb,hba⟩:=heb b (.head _);refine Aa 11 (λ_=>RL (λw=>AS w A.cb [pB A.sb,.map (some A.km),.map (some A.dm),.map (some A.rm),iV s.vars] 146) (λw f h _=>h.1.blk) [] Aj (rd [0,1,2,3,4,5,6,7,8] (.br 9 (rd [10,11,12] (.br 13 (.br 14 (.rd 15 .fin) .fin) .fin)) (.br 13 (.br 9 (rd [10,11,12] (.br 14 (.rd 15 .fin) .fin)) .fin) .fin))) C kR kR kR (λ_ _ _ _ _ h=>h)<|Bf 3 (λ_=>Iz C C C (λw hK=>Ai C JX hK.2.2 C)<|By 5 [100,1] (y2<|λ_=>Cl C ?_ ?_)));refine CR (α:=oA×Nat) C C (eC Nf C C) (λw f d=>let ⟨pr,hp⟩:=d.res.1.sol;Ji w f d.vl A.sb A.mb s.sol s.fresh pr hp hw.sol b.t eta etc hbb d.f0) (λ_=>⟨Al.mono,tQ⟩) ?_;rintro⟨a2,c2⟩ -;refine Aa 1 (λ_=>Bv [] (λw f h _=>h.1.blk) C (λ_ h=>h)<|Bf 3 (λ_=>Ak C<|Aa 2 (λb1=>λ_=>Bv [] (λw f h _=>h.1.blk) C (λ_ h=>h)<|Ak C<|Ae 2 [0] (y<|λ_=>Bv [] (λw f h _=>h.1.blk) C (λ_ h=>h)<|Bf 1 (λ_=>?_)))));refine BG<|Aa 8 (λ_=>Ap 31 C C (λW=>?_) (λW=>?_));refine Aa 5 (λ_=>?_);have hfn:DC s.sol b.t=none:=by cases hx:DC s.sol b.t with|none=>rfl|some z=>rw[hx] at W;cases W
  replace hq:∀n,(ll.contains n||(Br s J).contains n)=(Br s e).contains n:=λn=>by have G:=hq n;simp only[Br,hfn] at G;simpa using G
  exact Ae 7 [100,6] (y2<|λ_=>Ce ((J,era,ll)) (show J.length<(b::J).length from Nat.lt_succ_self _) ⟨hnd,hq,λb2 Y=>heb b2 (.tail _ Y)⟩ lE (λw f d=>⟨_,d.less (.cons _ sR) sR nE (mR [3])⟩));refine Aa 4 (λ_=>?_);obtain⟨D,Q⟩:∃z,DC s.sol b.t=some z:=by cases hx:DC s.sol b.t with|some z=>exact⟨z,C⟩|none=>rw[hx] at W;cases W
  have hfbd:D.bnd:=Mq hw.sol hbb Q;have hfsz:=Kl Q;rw[Q];dsimp only[Option.getD_some];have hfr:∀n,(Br s (b::J)).contains n=((((An D).drop 0).filter λv=>!b.all.contains v).contains n||(Br s J).contains n):=λn=>by simp only[Br,Q,List.drop_zero,List.contains_append]
  refine Ae 2 [0] (y<|λ_=>CR C C (eC Jn C C) (λw f d=>Gn w f d.vl D a2 c2 oM hfbd d.f0) (λx=>⟨Cg.mono,tQ⟩) ?_);rintro⟨va,vc⟩ -;have hvl:=Gm D;refine Aa 5 (λ_=>?_);refine DK (α:=Nat×List Int) (λx=>(An D).length-x.1) (λx=>x.1≤(An D).length∧x.2.Nodup∧(∀n,((x.2.contains n||(((An D).drop x.1).filter λv=>!b.all.contains v).contains n)||(Br s J).contains n)=(Br s e).contains n)) (λx=>(E6 0 (pB A.cb) 1 (pB ek) 5 (.map (some mb)) 33 (.slice va (An D).length vc) 34 (iV ((An D).length:Int)) 35 (iV (x.1:Int)))) (λx=>⟨Dk A,λb=>Dk A b∨b=mb,Lj 146 224 A s mb x.2,w,f⟩) (λx=>[]) (λx=>[]) (λx=>[⟨ek,0,S b.name::(tC b.t eta etc++[Value.slice eva b.all.length evc,Value.pointer era])⟩]) (λx=>[λw f=>Cg w f (An D) va vc,λw f=>Cg w f b.all eva evc,λw f=>BC w f J era]) (0,ll) ⟨Nat.zero_le _,hnd,λn=>by rw[← hq n,hfr n,Bool.or_assoc]⟩ lE (λw f d=>d.less (.cons _ sR) sR (λ_ h=>h) (mR [0,3,4])) ?_;rintro⟨i,L⟩ ⟨hi,F,U⟩;dsimp only at hi F U ⊢;refine Aa 6 (λ_=>Ap 36 C C (λh2=>?_) (λh2=>?_));refine Aa 6 (λ_=>?_);have hil:i<(An D).length:=by have:=dT h2;omega
  obtain⟨v0,hx⟩:∃v,(An D)[i]?=some v:=⟨_,List.getElem?_eq_getElem hil⟩;refine rA 0 C hx ?_;rintro⟨vb,voff⟩ rfl;have hdr:(An D).drop i=v0::(An D).drop (i+1):=by obtain⟨h8,G⟩:=List.getElem?_eq_some_iff.1 hx;rw[List.drop_eq_getElem_cons h8,G]
  refine Ae 14 [100,0,101,5] (aI oM<|y2<|y2<|λ_=>BO C C (eC Nj C C) (λw f d=>ES w f d.vl b.all eva evc v0 hba d.f1)<|Aa 3 (λ_=>Ap 46 C C (λO=>?_) (λO=>?_)));replace O:=B5 O;refine Aa 4 (λ_=>frUp (l:=L) (v:=v0) C C C C Nz OY hmn F<|Aa 7 (aI ⟨oM,oM⟩<|λ_=>?_));have Z:∀n,(((if L.contains v0 then L else L++[v0]).contains n||(((An D).drop (i+1)).filter λv=>!b.all.contains v).contains n)||(Br s J).contains n)=(Br s e).contains n:=λn=>by have G:=U n;have h8:(!b.all.contains v0)=true:=(by rw[O];rfl);rw[hdr,List.filter_cons_of_pos (p:=λv=>!b.all.contains v) h8] at G;rw[← G,KE]
  exact Ce ((i+1,(if L.contains v0 then L else L++[v0]))) (show (An D).length-(i+1)<(An D).length-i by omega) ⟨show i+1≤_ by omega,(PC F),Z⟩ lE (λw f d=>⟨_,d.less sR sR (λ_ h=>by rcases List.mem_cons.1 h with rfl|h;exact .tail _ (.head _);cases h) (mR [0,1,2])⟩);replace O:=B3 O;refine Aa 8 (aI ⟨oM,oM⟩<|λ_=>?_);have Z:∀n,((L.contains n||(((An D).drop (i+1)).filter λv=>!b.all.contains v).contains n)||(Br s J).contains n)=(Br s e).contains n:=λn=>by have G:=U n;rw[hdr,List.filter_cons_of_neg (by rw[O];decide)] at G;exact G
  exact Ce ((i+1,L)) (show (An D).length-(i+1)<(An D).length-i by omega) ⟨show i+1≤_ by omega,F,Z⟩ lE (λw f d=>⟨_,d.less sR sR (λ_ h=>by rcases List.mem_cons.1 h with rfl|h;exact .tail _ (.head _);cases h) (mR [0,1,2])⟩);refine Aa 3 (λ_=>Df<|Aa 3 (λ_=>?_));have hie:(An D).length≤i:=by have:=dF h2;omega
  have hq2:∀n,(L.contains n||(Br s J).contains n)=(Br s e).contains n:=λn=>by have G:=U n;rw[List.drop_eq_nil_of_le hie] at G;simpa using G
  exact Ae 7 [100,6] (y2<|λ_=>Ce ((J,era,L)) (show J.length<(b::J).length from Nat.lt_succ_self _) ⟨F,hq2,λb2 Y=>heb b2 (.tail _ Y)⟩ lE (λw f d=>⟨_,d.less sR sR nE (mR [2])⟩));refine Ak C<|Aa 2 (λb1=>λ_=>Bv [] (λw f h _=>h.1.blk) C (λ_ h=>h)<|Ak C<|CR (α:=oA×Nat) C C (eC Nf C C) (λw f d=>let ⟨pr,hp⟩:=d.res.1.sol;Ji w f d.vl A.sb A.mb s.sol s.fresh pr hp hw.sol b.t eta etc hbb d.f0) (λ_=>⟨Al.mono,tQ⟩) ?_);rintro⟨a2,c2⟩ -;refine Aa 1 (λ_=>Bv [] (λw f h _=>h.1.blk) C (λ_ h=>h)<|Bf 3 (λ_=>Ak C<|Ae 2 [0] (y<|λ_=>Bv [] (λw f h _=>h.1.blk) C (λ_ h=>h)<|Bf 1 (λ_=>BG<|Aa 8 (λ_=>Ap 31 C C (λW=>?_) (λW=>?_))))));refine Aa 5 (λ_=>?_);have hfn:DC s.sol b.t=none:=by cases hx:DC s.sol b.t with|none=>rfl|some z=>rw[hx] at W;cases W
  replace hq:∀n,(ll.contains n||(Br s J).contains n)=(Br s e).contains n:=λn=>by have G:=hq n;simp only[Br,hfn] at G;simpa using G
  exact Ae 7 [100,6] (y2<|λ_=>Ce ((J,era,ll)) (show J.length<(b::J).length from Nat.lt_succ_self _) ⟨hnd,hq,λb2 Y=>heb b2 (.tail _ Y)⟩ lE (λw f d=>⟨_,d.less (.cons _ sR) sR nE (mR [3])⟩));refine Aa 4 (λ_=>?_);obtain⟨D,Q⟩:∃z,DC s.sol b.t=some z:=by cases hx:DC s.sol b.t with|some z=>exact⟨z,C⟩|none=>rw[hx] at W;cases W
  have hfbd:D.bnd:=Mq hw.sol hbb Q;have hfsz:=Kl Q;rw[Q];dsimp only[Option.getD_some];have hfr:∀n,(Br s (b::J)).contains n=((((An D).drop 0).filter λv=>!b.all.contains v).contains n||(Br s J).contains n):=λn=>by simp only[Br,Q,List.drop_zero,List.contains_append]
  refine Ae 2 [0] (y<|λ_=>CR C C (eC Jn C C) (λw f d=>Gn w f d.vl D a2 c2 oM hfbd d.f0) (λx=>⟨Cg.mono,tQ⟩) ?_);rintro⟨va,vc⟩ -;have hvl:=Gm D;refine Aa 5 (λ_=>?_);refine DK (α:=Nat×List Int) (λx=>(An D).length-x.1) (λx=>x.1≤(An D).length∧x.2.Nodup∧(∀n,((x.2.contains n||(((An D).drop x.1).filter λv=>!b.all.contains v).contains n)||(Br s J).contains n)=(Br s e).contains n)) (λx=>(E6 0 (pB A.cb) 1 (pB ek) 5 (.map (some mb)) 33 (.slice va (An D).length vc) 34 (iV ((An D).length:Int)) 35 (iV (x.1:Int)))) (λx=>⟨Dk A,λb=>Dk A b∨b=mb,Lj 146 224 A s mb x.2,w,f⟩) (λx=>[]) (λx=>[]) (λx=>[⟨ek,0,S b.name::(tC b.t eta etc++[Value.slice eva b.all.length evc,Value.pointer era])⟩]) (λx=>[λw f=>Cg w f (An D) va vc,λw f=>Cg w f b.all eva evc,λw f=>BC w f J era]) (0,ll) ⟨Nat.zero_le _,hnd,λn=>by rw[← hq n,hfr n,Bool.or_assoc]⟩ lE (λw f d=>d.less (.cons _ sR) sR (λ_ h=>h) (mR [0,3,4])) ?_;rintro⟨i,L⟩ ⟨hi,F,U⟩;dsimp only at hi F U ⊢;refine Aa 6 (λ_=>Ap 36 C C (λh2=>?_) (λh2=>?_));refine Aa 6 (λ_=>?_);have hil:i<(An D).length:=by have:=dT h2;omega
  obtain⟨v0,hx⟩:∃v,(An D)[i]?=some v:=⟨_,List.getElem?_eq_getElem hil⟩;refine rA 0 C hx ?_;rintro⟨vb,voff⟩ rfl;have hdr:(An D).drop i=v0::(An D).drop (i+1):=by obtain⟨h8,G⟩:=List.getElem?_eq_some_iff.1 hx;rw[List.drop_eq_getElem_cons h8,G]
  refine Ae 14 [100,0,101,5] (aI oM<|y2<|y2<|λ_=>BO C C (eC Nj C C) (λw f d=>ES w f d.vl b.all eva evc v0 hba d.f1)<|Aa 3 (λ_=>Ap 46 C C (λO=>?_) (λO=>?_)));replace O:=B5 O;refine Aa 4 (λ_=>frUp (l:=L) (v:=v0) C C C C Nz OY hmn F<|Aa 7 (aI ⟨oM,oM⟩<|λ_=>?_));have Z:∀n,(((if L.contains v0 then L else L++[v0]).contains n||(((An D).drop (i+1)).filter λv=>!b.all.contains v).contains n)||(Br s J).contains n)=(Br s e).contains n:=λn=>by have G:=U n;have h8:(!b.all.contains v0)=true:=(by rw[O];rfl);rw[hdr,List.filter_cons_of_pos (p:=λv=>!b.all.contains v) h8] at G;rw[← G,KE]
  exact Ce ((i+1,(if L.contains v0 then L else L++[v0]))) (show (An D).length-(i+1)<(An D).length-i by omega) ⟨show i+1≤_ by omega,(PC F),Z⟩ lE (λw f d=>⟨_,d.less sR sR (λ_ h=>by rcases List.mem_cons.1 h with rfl|h;exact .tail _ (.head _);cases h) (mR [0,1,2])⟩);replace O:=B3 O;refine Aa 8 (aI ⟨oM,oM⟩<|λ_=>?_);have Z:∀n,((L.contains n||(((An D).drop (i+1)).filter λv=>!b.all.contains v).contains n)||(Br s J).contains n)=(Br s e).contains n:=λn=>by have G:=U n;rw[hdr,List.filter_cons_of_neg (by rw[O];decide)] at G;exact G
  exact Ce ((i+1,L)) (show (An D).length-(i+1)<(An D).length-i by omega) ⟨show i+1≤_ by omega,F,Z⟩ lE (λw f d=>⟨_,d.less sR sR (λ_ h=>by rcases List.mem_cons.1 h with rfl|h;exact .tail _ (.head _);cases h) (mR [0,1,2])⟩);refine Aa 3 (λ_=>Df<|Aa 3 (λ_=>?_));have hie:(An D).length≤i:=by have:=dF h2;omega
  have hq2:∀n,(L.contains n||(Br s J).contains n)=(Br s e).contains n:=λn=>by have G:=U n;rw[List.drop_eq_nil_of_le hie] at G;simpa using G
  exact Ae 7 [100,6] (y2<|λ_=>Ce ((J,era,L)) (show J.length<(b::J).length from Nat.lt_succ_self _) ⟨F,hq2,λb2 Y=>heb b2 (.tail _ Y)⟩ lE (λw f d=>⟨_,d.less sR sR nE (mR [2])⟩))
theorem Pm(w:wO)(f:Fq)(hv:Vl w f)(A:Ad)(hA:A.ok)(s:CS)(hC:AN 146 224 A s w f)(hf:∀b,Dk A b→f b=0)(hw:Im s)(e:BJ)(L:oA)(Q:JI e)(hE:BC w f e L)(G:lU)(t:T1)(a:oA)(c:Nat)(hb:t.bnd)(hT:Al w f t.kids a c)(v:Bool)(ln co:Int) :
  BV prog 73 #[pB A.cb,.pointer L,S G,tV t a c,.bool v,.agg #[iV ln,iV co]] w (EF (α:=BJ×oA) (λx=>.pointer x.2) (λx=>IY s e G t v ln co=.ok x.1∧JI x.1) (Dk A) (λ_=>AN 146 224 A s) (λx=>[λw f=>BC w f x.1 x.2]) w f) (PanE 134 (Dk A) (λer=>IY s e G t v ln co=.error er) w f):=by
 refine TV (X:=XC 146 224 A s w f) (H:=[]) (R:=[]) (B:=[]) (Fs:=[λw f=>Al w f t.kids a c,λw f=>BC w f e L]) (f:=f) func73 C C C (Tq hv hC hf ⟨hT,hE,tQ⟩ ⟨Al.mono,BC.mono,tQ⟩)<|Ae 21 [1,0] (λb1=>λb2=>y<|λb3=>y<|λ_=>Ap 19 C C (λh1=>?_) (λh1=>?_));refine Ae 6 [2,1] (y<|y<|λ_=>XO C C (eC OK C C) (λ_ h=>h) (λw f d=>G6 w f d.vl A hA s d.res d.mz hw t a c hb d.f0 ln co) (λ_=>AN.stab) (λ_=>⟨Al.mono,tQ⟩) (λer w2 f2 he hE=>⟨C,er,f2,C,(by rw[IY,if_pos h1,he]),hE⟩) ?_);rintro⟨D,fa,fc⟩ ⟨Y,J,Z⟩;dsimp only at Y J Z ⊢;refine Ae 8 [0] (y<|λ_=>fN (XX:=λ_ _=>False) C C (eC lN C C) (λw f d=>(Yp w f d.vl A hA s d.res d.mz hw e L Q d.f2).retP) (λ_=>Lj.stab) (λ_=>trivial) (λ_ _ _ _ _ h=>h.elim) ?_);rintro⟨mb,F⟩ ⟨hmn,O,hlq⟩;dsimp only at hmn O hlq ⊢;refine Ae 7 [0] (y<|λ_=>CR C C (eC Jn C C) (λw f d=>Gn w f d.vl D fa fc oM J d.f0) (λx=>⟨Cg.mono,tQ⟩) ?_);rintro⟨va,vc⟩ -;have hvl:=Gm D;refine Aa 5 (λ_=>LY 3 1 ?_);refine DK (α:=Nat×oA×Nat) (λx=>(An D).length-x.1) (λx=>x.1≤(An D).length) (λx=>(E8 0 (pB A.cb) 1 (.pointer L) 2 (S G) 13 (pB b3) 14 (.map (some mb)) 30 (.slice va (An D).length vc) 31 (iV ((An D).length:Int)) 32 (iV (x.1:Int)))) (λx=>⟨Dk A,λb=>Dk A b∨b=mb,Lj 146 224 A s mb F,w,f⟩) (λx=>[⟨b3,tC D fa fc++[Value.slice x.2.1 (((An D).take x.1).filter λv=>!F.contains v).length x.2.2],181,true⟩,⟨b2,[iV ln,iV co],41,true⟩,⟨b1,tC t a c,29,true⟩]) (λx=>[⟨3,1,x.2.1,x.2.2,(((An D).take x.1).filter λv=>!F.contains v).length,(((An D).take x.1).filter λv=>!F.contains v).map λn=>iV n⟩]) (λx=>[]) (λx=>[λw f=>Cg w f (An D) va vc,λw f=>Al w f D.kids fa fc,λw f=>BC w f e L]) (0,none,0) (Nat.zero_le _) lE (λw f d=>d.less sR sR nE (mR [0,1,3])) ?_;rintro⟨i,ra,rc⟩ hi;dsimp only at hi ⊢;have hfl2:(((An D).take i).filter λv=>!F.contains v).length≤i:=Nat.le_trans (List.length_filter_le _ _) (by rw[List.length_take];exact Nat.min_le_left _ _);refine Aa 6 (λ_=>Ap 33 C C (λh2=>?_) (λh2=>?_));refine Aa 6 (λ_=>?_);have hil:i<(An D).length:=by have:=dT h2;omega
 obtain⟨v0,hx⟩:∃v,(An D)[i]?=some v:=⟨_,List.getElem?_eq_getElem hil⟩;refine rA 0 C hx ?_;rintro⟨vb,voff⟩ rfl;refine Ae 10 [100,0] (aI oM<|y2<|λ_=>BN C C (λw f d=>RE (K:=Ez) (a:=v0) C C Nz OY rF d.res.2 (KU O) (WM v0 F))<|Aa 3 (λ_=>Ap 39 C C (λU=>?_) (λU=>?_)));replace U:=B5 U;refine Ae 6 [0] (y<|λb4=>λ_=>Dd 0 0 C C QH C C C C C C C C (λ_ _=>C) oM oM λra2 rc2=>Ae 9 [1] (y<|aI ⟨oM,oM⟩<|λ_=>?_));have W:(((An D).take (i+1)).filter λv=>!F.contains v)=(((An D).take i).filter λv=>!F.contains v)++[v0]:=by rw[CZ hx,List.filter_append];have h9:v0∉F:=(by simpa using U);simp[h9]
 exact Ce ((i+1,ra2,rc2)) (show (An D).length-(i+1)<(An D).length-i by omega) (show i+1≤_ by omega) lE (λw f d=>⟨_,by dsimp only;rw[W];rw[List.length_append,List.map_append];exact d.less (.cons _ sR) sR nE (mR [0,1,2])⟩);replace U:=B3 U;refine Aa 8 (aI ⟨oM,oM⟩<|λ_=>?_);have W:(((An D).take (i+1)).filter λv=>!F.contains v)=(((An D).take i).filter λv=>!F.contains v):=by rw[CZ hx,List.filter_append];have h9:v0∈F:=(by simpa using U);simp[h9]
 exact Ce ((i+1,ra,rc)) (show (An D).length-(i+1)<(An D).length-i by omega) (show i+1≤_ by omega) lE (λw f d=>⟨_,by dsimp only;rw[W];skip;exact d.less sR sR nE (mR [0,1,2])⟩);refine Aa 3 (λ_=>Df<|Aa 3 (λ_=>?_));obtain rfl:i=(An D).length:=by have:=dF h2;omega
 rw[List.take_length] at *;refine Xg (λw f=>Cg w f ((An D).filter λv=>!F.contains v) ra rc) Cg.mono (λw f d=>R4 d)<|Ae 10 [0] (y<|λb4=>λ_=>Di 0 C C ?_);have hall:((An D).filter λv=>!F.contains v)=(An D).filter λv=>!(Br s e).contains v:=List.filter_congr λv _=>by rw[hlq v]
 exact A5 (Cb C C) (λw f d=>⟨(⟨G,D,(An D).filter λv=>!F.contains v⟩::e,some ⟨b4,0,none⟩),f,C,⟨(by rw[IY,if_pos h1,Y,hall]),Q.cons J (show ((An D).filter λv=>!F.contains v).length≤_ by omega)⟩,d.exm,d.res.1,⟨⟨b4,fa,fc,ra,rc,L,C,d.b0,d.f2,d.f0,d.f3⟩,tQ⟩⟩);exact Ae 14 [0] (y<|λb4=>λ_=>Di 0 C C<|A5 (Cb C C) (λw f d=>⟨(⟨G,t,[]⟩::e,some ⟨b4,0,none⟩),f,C,⟨(by rw[IY,if_neg (by rw[h1];decide)]),Q.cons hb (Nat.zero_le _)⟩,d.exm,d.res,⟨⟨b4,a,c,none,0,L,C,d.b0,d.f0,⟨Nat.zero_le _,.inl C⟩,d.f1⟩,tQ⟩⟩))
theorem T8(n:Nat)(F:ZI prog 74 n)(w:wO)(f:Fq)(G:Vl w f)(op ln co nm:Int)(tx:lU)(kids:Nd)(d:oA)(nc:Nat)(hm:kids.size<n)(D:kids.size≤1000000)(J:Bc w f kids d nc) :
  AX prog 106 #[.agg #[iV op,iV ln,iV co,S tx,iV nm,.slice d kids.len nc]] w (AU (α:=Unit) (λ_=>.bool (!C7 n op kids)) (λ_=>True) (λ_=>[]) w f):=by
 exact Ed [λw f=>Bc w f kids d nc] func106 C C C (Be G ⟨J,tQ⟩ ⟨Bc.mono,tQ⟩)<|Ae 9 [0] (λb1=>y<|λ_=>BO C C (eC eZ C C) (λw f h=>F w f h.vl op ln co nm tx kids d nc hm D h.f0)<|Aa 5 (λ_=>A5 (Cb C C) (λw f h=>⟨(),f,C,tQ,h.exm,tQ⟩)))
theorem Su(n:Nat)(Z:ZI prog 74 n)(w:wO)(f:Fq)(hv:Vl w f)(kids:Nd)(O:oA)(nc:Nat)(hm:kids.size≤n)(hsz:kids.size≤1000000)(hN:Bc w f kids O nc) :
  AX prog 138 #[.slice O kids.len nc,.func (.func 106) #[] #[]] w (AU (α:=Int) (λx=>iV x) (λx=>decide (0≤x)=!Vw (C7 n) kids) (λ_=>[]) w f):=by
 have hkl:=Nd.len_le kids;refine Ed [λw f=>Bc w f kids O nc] func138 C C C (Be hv ⟨hN,tQ⟩ ⟨Bc.mono,tQ⟩)<|Aa 14 (λ_=>?_);refine DK (α:=Nat×Nd) (λx=>x.2.len) (λx=>x.1+x.2.len=kids.len∧Vw (C7 n) kids=Vw (C7 n) x.2∧x.2.size≤kids.size) (λx=>(E4 0 (.slice O kids.len nc) 1 (.func (.func 106) #[] #[]) 7 (iV (kids.len:Int)) 8 (iV (x.1:Int)))) (λx=>X0 w f) (λx=>[]) (λx=>[]) (λx=>[]) (λx=>[λw f=>Ct w f O x.1 x.2]) (0,kids) ⟨Nat.zero_add _,C,Nat.le_refl _⟩ lE (λw f d=>d.more (B':=[]) (F':=[λw f=>Ct w f O 0 kids]) nE (AR.mem ⟨Bc.at d.f0,tQ⟩) (Au.mem ⟨Ct.mono,tQ⟩) |>.less sR sR nE (mR [0])) ?_;rintro⟨i,r⟩ ⟨Y,D,F⟩;dsimp only at Y D F ⊢;refine Aa 6 (λ_=>Ap 9 C C (λQ=>?_) (λQ=>?_));refine Aa 6 (λ_=>?_);have hil:i<kids.len:=by have:=dT Q;omega
 obtain⟨h,G,J,K,L,k2,r,rfl⟩:=Nd.cases1 r oM;have hi2:i+(r.len+1)=kids.len:=Y;refine Yy 0 C ?_;rintro⟨eb,eo,ka,kc⟩ rfl;refine Ae 12 [100,0] (aI oM<|y2<|λ_=>BO C C (eC kG C C) (λw f d=>T8 n Z w f d.vl h G J L K k2 ka kc (by have U:k2.size+r.size+1≤_:=F;omega) (by have U:k2.size+r.size+1≤_:=F;omega) d.f0)<|Aa 2 (λ_=>Ap 16 C C (λW=>?_) (λW=>?_)));exact Aa 10 (λ_=>Hf<|Aa 2 (λ_=>A5 (Cb C C) (λw f d=>⟨(i:Int),f,C,(by rw[D];show _=!(C7 n h k2&&_);rw[B5 W];simp),d.exm,tQ⟩)));exact Aa 8 (aI ⟨oM,oM⟩<|λ_=>Ce ((i+1,r)) (show r.len<(Nd.cons h G J K L k2 r).len from Nat.lt_succ_self _) ⟨show i+1+r.len=_ by omega,D.trans (by show (C7 n h k2&&Vw (C7 n) r)=_;rw[B3 W,Bool.true_and]),show r.size≤_ by have U:(Nd.cons h G J K L k2 r).size≤_:=F;simp only[Nd.size] at U;omega⟩ lE (λw f d=>⟨_,d.less sR sR nE (mR [1])⟩));refine Aa 3 (λ_=>Df<|Aa 3 (λ_=>?_));obtain rfl:r=.nil:=Nd.len0 (by have:=dF Q;omega);exact Aa 5 (λ_=>A5 (Cb C C) (λw f d=>⟨-1,f,C,(by rw[D];rfl),d.exm,tQ⟩))
theorem I8(n:Nat)(G:ZI prog 74 n)(w:wO)(f:Fq)(J:Vl w f)(kids:Nd)(d:oA)(nc:Nat)(hm:kids.size≤n)(D:kids.size≤1000000)(K:Bc w f kids d nc) :
  AX prog 105 #[.slice d kids.len nc,.func (.func 106) #[] #[]] w (AU (α:=Unit) (λ_=>.bool (!Vw (C7 n) kids)) (λ_=>True) (λ_=>[]) w f):=by
 refine Ed [λw f=>Bc w f kids d nc] func105 C C C (Be J ⟨K,tQ⟩ ⟨Bc.mono,tQ⟩)<|Aa 9 (λ_=>CR C C (eC jM C C) (λw f h=>Su n G w f h.vl kids d nc hm D h.f0) (λx=>trivial) ?_);rintro L F;exact Aa 5 (λ_=>A5 (Cb C C) (λw f h=>⟨(),f,(by rw[← F]),tQ,h.exm,tQ⟩))
theorem Vf(n:Nat)(U:ZI prog 74 n)(w:wO)(f:Fq)(Y:Vl w f)(op ln co nm:Int)(tx:lU)(kids:Nd)(J:oA)(nc:Nat)(hm:kids.size<n+1)(K:kids.size≤1000000)(Z:Bc w f kids J nc) :
  AX prog 74 #[.agg #[iV op,iV ln,iV co,S tx,iV nm,.slice J kids.len nc]] w (AU (α:=Unit) (λ_=>.bool (C7 (n+1) op kids)) (λ_=>True) (λ_=>[]) w f):=by
 refine Ed [λw f=>Bc w f kids J nc] func74 C C C (Be Y ⟨Z,tQ⟩ ⟨Bc.mono,tQ⟩)<|Ae 21 [0] (λb1=>y<|λ_=>?_)
 ·
  refine Ap 5 C C (λh=>?_) (λh=>?_);exact Aa 12 (λ_=>A5 (Cb C C) (λw f d=>⟨(),f,(by simp[C7,h]),tQ,d.exm,tQ⟩));refine Aa 7 (λ_=>Ap 5 C C (λD=>?_) (λD=>?_));exact Aa 12 (λ_=>A5 (Cb C C) (λw f d=>⟨(),f,(by simp[C7,h,D]),tQ,d.exm,tQ⟩));refine Aa 7 (λ_=>Ap 5 C C (λF=>?_) (λF=>?_));exact Aa 12 (λ_=>A5 (Cb C C) (λw f d=>⟨(),f,(by simp[C7,h,D,F]),tQ,d.exm,tQ⟩));refine Aa 7 (λ_=>Ap 5 C C (λG=>?_) (λG=>?_));exact Aa 12 (λ_=>A5 (Cb C C) (λw f d=>⟨(),f,(by simp[C7,h,D,F,G]),tQ,d.exm,tQ⟩));refine Aa 7 (λ_=>Ap 5 C C (λL=>?_) (λL=>?_));exact Aa 12 (λ_=>A5 (Cb C C) (λw f d=>⟨(),f,(by simp[C7,h,D,F,G,L]),tQ,d.exm,tQ⟩));refine Aa 6 (λ_=>Ap 5 C C (λO=>?_) (λO=>?_));exact Aa 9 (λ_=>A5 (Cb C C) (λw f d=>⟨(),f,(by simp[C7,h,D,F,G,L,O]),tQ,d.exm,tQ⟩));refine Aa 8 (λ_=>Ap 12 C C (λQ=>?_) (λQ=>?_));exact Ae 8 [0] (y<|λ_=>BO C C (eC VH C C) (λw f d=>I8 n U w f d.vl kids J nc oM K d.f0)<|Aa 7 (λ_=>A5 (Cb C C) (λw f d=>⟨(),f,(by simp[C7,h,D,F,G,L,O,Q]),tQ,d.exm,tQ⟩)));refine Aa 6 (λ_=>Ap 12 C C (λW=>?_) (λW=>?_));refine Ae 5 [0] (y<|λ_=>BO C C (eC VH C C) (λw f d=>I8 n U w f d.vl kids J nc oM K d.f0)<|Aa 7 (λ_=>?_))
  rotate_left
  refine Aa 10 (λ_=>?_)
  all_goals
   exact A5 (Cb C C) (λw f d=>⟨(),f,(by simp[C7,h,D,F,G,L,O,Q,W]),tQ,d.exm,tQ⟩)

theorem Nt:∀n,ZI prog 74 n
 |0=>λ_ _ _ _ _ _ _ _ _ _ _ h=>absurd h (Nat.not_lt_zero _)
 |n+1=>λw f D op ln co nm tx kids F nc hm d G=>Vf n (Nt n) w f D op ln co nm tx kids F nc hm d G
theorem XJ(w:wO)(f:Fq)(G:Vl w f)(A:Ad)(J:A.ok)(s:CS)(K:AN 146 224 A s w f)(L:∀b,Dk A b→f b=0)(hw:Im s)(t u:T1)(a:oA)(c:Nat)(a2:oA)(c2:Nat)(d:t.bnd)(D:u.bnd)(O:Al w f t.kids a c)(Q:Al w f u.kids a2 c2)(ln co:Int) :
  BV prog 71 #[pB A.cb,tV t a c,tV u a2 c2,.agg #[iV ln,iV co]] w (EF (α:=CS) (λ_=>.tuple #[]) (λx=>H3 s t u ln co=.ok x∧Im x∧x.fresh=s.fresh) (Dk A) (λx=>AN 146 224 A x) (λ_=>[]) w f) (PanE 134 (Dk A) (λer=>H3 s t u ln co=.error er) w f) :=
 (Y4 w f G A J s K L hw t u a c a2 c2 d D O Q ln co).mono (λ_ _ ⟨x,f2,U,F,W,Y,Z⟩=>⟨{s with sol:=x},f2,U,⟨F.1,F.2,C⟩,W,Y,Z⟩) λ_ _ h=>h
theorem M4(w:wO)(f:Fq)(h:Vl w f)(A:Ad)(D:A.ok)(s:CS)(hw:Im s)(pr:Int)(J:AN 146 224 A s w f)(K:Bz 224 A.sb A.mb s.sol s.fresh pr w f)(d:∀b,Dk A b→f b=0)(F:s.fresh≤900000000000) :
  AX prog 107 #[pB A.sb] w (EF (α:=CS) (λ_=>tV (AM s).1 none 0) (λx=>x=(AM s).2∧Im x∧x.fresh=s.fresh+1) (Dk A) (λx=>AN 146 224 A x) (λ_=>[]) w f) :=
 (O1 w f h A.sb A.mb _ _ pr K ⟨d _ (.inr (.inl C)),d _ (.inr (.inr (.inl C)))⟩ D.sm.1 (by have:=hw.fr;constructor <;> omega)).mono λv U ⟨x,f2,L,W,G,O,Q⟩=>⟨(AM s).2,f2,L,⟨C,hw.fresh (by have:=hw.fr;omega),C⟩,G.mono MD.c,J.solved D h (λb F=>d b (MD.c b F)) G O,Q⟩
theorem X5(w:wO)(f:Fq)(h:Vl w f)(a:oA)(m c:Nat) :
  AX prog 35 #[.slice a m c] w (AU (α:=Nat) (λb=>.func (.func 79) #[] #[pB b]) (λ_=>True) (λb=>[λw f=>Cs w f b 0 [.slice a m c]]) w f):=by
 exact Ed [] func35 C C C (Be h tQ tQ)<|Aa 8 (λb1=>λ_=>BN C C (λw f d=>Rk C)<|Aa 4 (λ_=>Di 0 C C<|A5 (Cb C C) (λw f d=>⟨b1,f,C,tQ,d.exm,⟨d.b0,tQ⟩⟩)))
theorem gK(w:wO)(f:Fq)(k:Ty)(a:oA)(c m n0 b3 d:Nat)(hT:Al w f k a c)(hm:m≤k.len)(hk:k.len≤200000)(hw0:w.heap.size≤b3)(K:d<n0)(hBb:d≠b3)(hn:w.heap.size≤n0)(w1:wO)(hw1:∀j,j<w.heap.size→w1.heap[j]?=w.heap[j]?)(hn1:n0≤w1.heap.size)
  (hc:w1.cell? ⟨d,0,none⟩=some (.slice a m c)) (q:Nat) :
  SeqStopsK Fence.wide q prog 79 #[pB d] (encB (w:=w) (f:=f) (k:=k)) (wR n0 b3) (λxs=>fJ xs=(k.list.take m).reverse) (λ_=>True) m w1:=λl J Jx W hB _ _ hY h0=>by
 refine callsIn_wide.2 ?_
 have L:AX prog 79 #[.func (.yield l) #[] #[],pB d] W (λ_ D=>(∃xs,fJ xs=(k.list.take m).reverse∧J xs D)∨(∃pre,True∧Jx pre D)):=by
  refine enter func79 C C C ?_;have O:W.cell? ⟨d,0,none⟩=some (.slice a m c):=(hB.cell (p:=⟨d,0,none⟩) (Nat.lt_of_lt_of_le K hn1)).trans hc;have hWw:∀j,j<w.heap.size→W.heap[j]?=w.heap[j]?:=λj hj=>(hB.block j oM).trans (hw1 j hj);refine BF (C6 (Ac C (IW C ZL O) (Ac C (Mb C Sv) (Ac C (G0 C C ⟨oM,oM⟩) (Ac C (CV C) (Ah (Dr (DU ?_))))))));refine DM (λi σ ds D=>σ=AI (E2 0 (.func (.yield l) #[] #[]) 1 (pB d)) 3 (iV (iv i))∧ds=[]∧i≤m∧wR n0 b3 W D∧∃pre:List (ElB w f k),fJ pre=((k.list.take m).drop i).reverse∧pre.length=m-i∧J pre D) m _ lE ⟨C,C,Nat.le_refl _,λ_ _ _=>C,[],by rw[List.drop_eq_nil_of_le (by rw[List.length_take];exact Nat.min_le_left _ _)];rfl,by simp,h0⟩ ?_;rintro i σ ds D ⟨rfl,rfl,him,G,pre,U,hpl,hJ⟩;refine BF (BF (C6 (Ac C (Aw C) (Ac C (dV C C) (Ah (Dr<|Nq C (λht=>HD (Dr ?_)) (λhf=>KP ?_)))))))
  ·
   obtain⟨j,rfl⟩:∃j,i=j+1:=⟨i-1,by have:=dT ht;unfold iv at this;omega⟩;obtain⟨t,F⟩:=II (k:=k) (i:=j) oM;obtain⟨b,off,ka,kc,ha,Y,Z⟩:=Al.nth hT F;subst ha;have hbw:b<w.heap.size:=Ib (Y 0 _ C).2;have hcW':D.cell? ⟨d,0,none⟩=some (.slice (some ⟨b,off,none⟩) m c):=(DW (G d K hBb) 0).trans O
   have hce:∀(q:Nat)(v:Value),(tC t ka kc)[q]?=some v→D.cell? ⟨b,off+(j:Int).toNat*4+q,none⟩=some v:=λq v hq=>by
    rw[Int.toNat_natCast];exact (DW ((G b oM oM).trans (hWw b hbw)) _).trans (Y q v hq).2
   have hy:=hY pre ⟨(j,t,ka,kc),F,Z⟩ D hJ oM;rw[mL];refine BF (DU (BF (Z0 (FI C (Aw C) (FI C (Aw C) (FI C (IW C ZL hcW') (FI C (Aw C) (FI C (Oo C C Sv ⟨oM,oM⟩) (FI C (K9 C CA C hce) (UD C C C hy ?_))))))))));rintro e W3 (⟨rfl,hJ3,hk3⟩|⟨rfl,hJx3⟩)
   ·
    refine⟨_,C,FI C (Up C) (RU (Dr (J4 C C (HD (IA (Dr (C6 (Ac C (Aw C) (Ac C (G0 C C ⟨oM,oM⟩) (Ac C (CV C) (Ah (GS j _ (Nat.lt_succ_self _) lE ⟨C,C,oM,λq hq hne=>(hk3 q hq hne).trans (G q hq hne),pre++[⟨(j,t,ka,kc),F,Z⟩],?_,by simp[hpl];omega,hJ3⟩))))))))))))⟩;have hjm:j<(k.list.take m).length:=by rw[List.length_take,Ty.list_len];omega
    rw[fJ,List.map_append,List.drop_eq_getElem_cons hjm,List.reverse_cons];have hpm2:List.map (λx=>x.1.2.1) pre=_:=U;rw[hpm2]
    congr 1
    have h9:(k.list.take m)[j]?=some t:=by rw[List.getElem?_take,if_pos (by omega),Ty.list_get,F]
    rw[List.getElem?_eq_getElem hjm] at h9;simpa using h9.symm
   · exact⟨_,C,FI C (Up C) (RU (Dr (F2 C C (J6 (WL (VQ (X8 (WL (Bp (Gz C) (.inr ⟨_,tQ,hJx3⟩))))))))))⟩
  ·
   obtain rfl:i=0:=by have:=dF hf;unfold iv at this;omega
   exact WE (Ox (PE (MA (Gz C) (.inl ⟨pre,by rw[U,List.drop_zero],hJ⟩))))
 exact Calls.mono L λe D ⟨v,he,h⟩=>⟨⟨v,he⟩,h⟩
variable {Q:AV}{σ:Ba}
theorem cP(w:wO)(f:Fq)(hv:Vl w f)(k:Ty)(a:oA)(c m:Nat)(tl:T1)(hk:k.len≤200000)(hm:k.len=m+1)(hg:k.get m=some tl)(hkb:k.bnd)(hT:Al w f k a c)(b1 b2 Bs:Nat)(ta:oA)(tc:Nat)(z:lV){iA iB jB:Nat}{lA lB:List Oper}
  (hA0:X4 lA=true) (hB0:X4 lB=true) (EE:σ 17=some (.func (.func 79) #[] #[pB Bs])) (h3:σ 3=some (pB b2))
  (hA:∀(x:ElB w f k)(V:wO)(f2:Fq)(Qa:AV),(∀b5,A1 prog 25 Qa [] (X0 V f2) [] [] [] (.out .normal) [] (E4 3 (pB b2) 18 (iV (x.1.1:Int)) 19 (tV x.1.2.1 x.1.2.2.1 x.1.2.2.2) 5 (pB b5)) [⟨b5,tC x.1.2.1 x.1.2.2.1 x.1.2.2.2,29,true⟩]) →
   A1 prog 25 Qa [] (X0 V f2) [] [] [] (.ops lA lA) [] (E3 3 (pB b2) 18 (iV (x.1.1:Int)) 19 (tV x.1.2.1 x.1.2.2.1 x.1.2.2.2)) [])
  (hB:∀(x:ElB w f k)(V:wO)(f2:Fq)(t:T1)(a2:oA)(c2 b5:Nat)(Qb:AV),t.bnd→x.1.2.1.bnd→(∀a3 c3 b6 Z,A1 prog 25 Qb [] ⟨λb=>b=b2,λ_=>False,λ_ _=>True,V,f2⟩ [] [b6,⟨b5,0,tC x.1.2.1 x.1.2.2.1 x.1.2.2.2⟩] [λw f=>Al w f (x.1.2.1.cons t.one) a3 c3,λw f=>Al w f t.kids a2 c2,λw f=>Al w f x.1.2.1.kids x.1.2.2.1 x.1.2.2.2] (.out .normal) [] Z [⟨b2,tC (.con Ga (x.1.2.1.cons t.one)) a3 c3,29,false⟩]) →
   A1 prog 25 Qb [] ⟨λb=>b=b2,λ_=>False,λ_ _=>True,V,f2⟩ [] [⟨b5,0,tC x.1.2.1 x.1.2.2.1 x.1.2.2.2⟩] [λw f=>Al w f t.kids a2 c2,λw f=>Al w f x.1.2.1.kids x.1.2.2.1 x.1.2.2.2] (.ops lB lB) [] (E2 3 (pB b2) 5 (pB b5)) [⟨b2,tC t a2 c2,29,false⟩])
  (W:wO) (f1:Fq) (F:AO (X0 w f) W f1 [⟨b2,tC tl ta tc,29,true⟩,⟨b1,z,29,true⟩] [] [] [λw f=>Cs w f Bs 0 [.slice a m c],λw f=>Al w f tl.kids ta tc])
  (hQ:∀D V f2 a2 c2,VC w f b1 b2 z 29 (GC k) V f2 a2 c2→w.heap.size≤D→V.heap[D]?=some (.deferred (some []))→Q.q .normal σ [{target:=.collected D,args:=#[]}] V) :
  GP prog 25 (.rangeFunc (.tmp 17) #[18,19] (.region iA lA.toArray false) (.block jB (.region iB lB.toArray false))) Q σ [] W:=λa' ha=>by
 have U:=F.blk _ (.head _);have Y:=F.blk _ (.tail _ (.head _));have hn2:w.heap.size≤b2:=F.hnw _ (.head _) C;have hn1:w.heap.size≤b1:=F.hnw _ (.tail _ (.head _)) C
 have hnd:b2≠b1:=λe=>by
  have:=F.nd;simp[Cf,e] at this
 have hcs:Cs W f1 Bs 0 [.slice a m c]:=F.f0;have hBlt:Bs<W.heap.size:=Ib (hcs 0 _ C).2
 have hBb:Bs≠b2:=λe=>by
  have h9:=(hcs 0 _ C).1;have h8:=(F.own b2 (.head _)).1;rw[← e] at h8;omega
 have hI0:VC w f b1 b2 z 29 tl W (SP.nrm w.heap.size W f1) ta tc:=⟨W1 F.exm,U,Y,Al.nrm F.f1,HV hkb hg,⟨IQ (F.own b2 (.head _)).1,IQ (F.own b1 (.tail _ (.head _))).1⟩,Za⟩
 refine wpIn_wide.1 (wpIn_rangeFunc_ownH (n:=3) C dC (gf:=79) (lb:=#[pB Bs]) (ha.ev (.tmp 17) _ EE) tQ rZ
  (gK w f k a c m W.heap.size b2 Bs hT oM hk hn2 hBlt hBb F.exm.stp.size W (λj hj=>F.exm.stp.block j hj (λh=>h)) (Nat.le_refl _) (hcs 0 _ C).2 _)
  (λh1 h2 q hq hne=>(h2 q hq hne).trans (h1 q hq hne)) (λV l o o' hl ho _ _ q hq hne=>World.putObj_heap_other oM) (Below.refl _ _) (λ_=>C)
  (λpre V=>∃f2 a2 c2,VC w f b1 b2 z 29 (oI tl (fJ pre)) V f2 a2 c2∧W.heap.size≤V.heap.size) (λ_ _ _=>False)
  (λs V J row ⟨f2,a2,c2,h,hs⟩ hg hr=>⟨f2,a2,c2,h.own F.exm.stp.size hg hr,Nat.le_trans hs hg.size⟩) (λ_ _ _ _ _ h _ _=>h.elim) ⟨_,ta,tc,hI0,Nat.le_refl _⟩
  (λx a5 V=>∃b5,St 25 (E2 3 (pB b2) 5 (pB b5)) [] a5∧AS V b5 (tC x.1.2.1 x.1.2.2.1 x.1.2.2.2) 29∧W.heap.size≤b5)
  (λx a5 s V J row ⟨b5,h1,h2,h3⟩ hg hr=>⟨b5,h1,(hg.block b5 h2.lt (λe=>by obtain⟨_,o,ho,hc⟩:=hr b5 e.symm;exact H2 h2 ho hc)).trans h2,h3⟩)
  ?_ ?_ ?_ (λ_ _ _ _ _ _ h=>h.elim))
 ·
  rintro l pre x V K ⟨f2,a2,c2,G,hs⟩ hK
  have hst:St 25 (E3 3 (pB b2) 18 (iV (x.1.1:Int)) 19 (tV x.1.2.1 x.1.2.2.1 x.1.2.2.2)) [] {tmps:=(a'.tmps.setIfInBounds 18 (iV (x.1.1:Int))).setIfInBounds 19 (tV x.1.2.1 x.1.2.2.1 x.1.2.2.2),defers:=[]}:=by
   have h1:=((ha.le (lu1 h3)).put (d:=18) C (iV (x.1.1:Int))).put (d:=19) C (tV x.1.2.1 x.1.2.2.1 x.1.2.2.2);exact⟨h1.size,C,h1.val⟩
  refine wpIn_mono (nP (Q:={q:=λe σ ds J=>match e with|.normal=>∀a5,St 25 σ ds a5→K a5 J | _=>False,p:=λ_ _ _ _=>False}) hA0 ZX (by simpa[encB] using hst) (hA x V f2 _ (λb5 J f3 L=>?_) V f2 (Be G.exm.val tQ tQ))) ?_
  ·
   intro a5 ha5;have hE:=L.exm;have hb5:=L.blk _ (.head _);have hge:V.heap.size≤b5:=L.hnw _ (.head _) C;have hE3:C9 (λb=>b=b2) V f2 J f3:=hE.mono λ_ h=>h.elim;exact hK a5 J (KeepsFrom.of_exm hE3 G.k3) (wR.of_exm hE3 hs) ⟨_,a2,c2,G.step hn2 (Ne.symm hnd) hE3 ((hE.stp.block b2 G.k3.lt (λh=>h)).trans G.k3) (Al.mono _ _ _ _ G.ty (hE.fle G.exm.val (λ_ h=>h.elim))) G.bnd,Nat.le_trans hs hE.stp.size⟩ ⟨b5,ha5.le lE,hb5,oM⟩
  ·
   rintro e a5 J h
   cases e with
   |normal=>obtain⟨Z,ds',hs',h⟩:=h;exact h a5 hs'
   |ret=>obtain⟨_,_,_,h⟩:=h;exact h.elim
   |exit i=>obtain⟨_,_,_,h⟩:=h;exact h.elim
   |goto i=>obtain⟨_,_,_,h⟩:=h;exact h.elim
   |panic c=>obtain⟨_,_,_,h⟩:=h;exact h.elim
   |outgrown=>exact h.elim
 ·
  rintro l pre x a5 V hl-⟨f2,a2,c2,G,hs⟩ ⟨b5,hst,hb5,h5⟩ hlt;have hb2W:b2<W.heap.size:=U.lt;have hb1W:b1<W.heap.size:=Y.lt;have hww:w.heap.size≤W.heap.size:=F.exm.stp.size;obtain⟨O,hc5⟩:=G.frz hb5 (show b5≠b1 by omega) (show b5≠b2 by omega) oM;have hxT:Al V (λb=>if b=b5 then max (tC x.1.2.1 x.1.2.2.1 x.1.2.2.2).length (f2 b) else f2 b) x.1.2.1.kids x.1.2.2.1 x.1.2.2.2:=Al.mono _ _ _ _ x.2.2 (O.exm.fle hv (λ_ h=>h.elim));have hMb:=(memH O.exm.val O.k3 O.z3.1 (Fs:=[λw f=>Al w f (oI tl (fJ pre)).kids a2 c2,λw f=>Al w f x.1.2.1.kids x.1.2.2.1 x.1.2.2.2]) ⟨O.ty,hxT,tQ⟩ ⟨Al.mono,Al.mono,tQ⟩).more (B':=[⟨b5,0,tC x.1.2.1 x.1.2.2.1 x.1.2.2.2⟩]) (F':=[]) (λe he=>by cases he with|head=>exact hc5|tail _ h=>cases h) nE nE;refine wpIn_block (wpIn_mono (nP (Q:={q:=λe σ ds J=>match e with|.normal=>KeepsFrom W.heap.size V J∧wR W.heap.size b2 V J∧∃f2 a2 c2,VC w f b1 b2 z 29 (oI tl (fJ (pre++[x]))) J f2 a2 c2∧W.heap.size≤J.heap.size|_=>False,p:=λ_ _ _ _=>False}) hB0 ZX hst (hB x V _ (oI tl (fJ pre)) a2 c2 b5 _ G.bnd (HV hkb x.2.1) (λa3 c3 b6 Z J f3 L=>?_) V _ hMb)) ?_)
  ·
   have hE:=L.exm;have hTn:=L.fact (i:=0) C;refine⟨KeepsFrom.of_exm hE G.k3,wR.of_exm hE hs,SP.nrm w.heap.size J f3,a3,c3,?_,Nat.le_trans hs hE.stp.size⟩;rw[fJ,List.map_append,List.map_cons,List.map_nil,TA];exact O.step hn2 (Ne.symm hnd) hE (L.blk _ (.head _)) hTn ⟨⟨by simp[T1.kids,T1.len_cons,T1.one,Ty.len],by simp[T1.tx,Ga]⟩,T1.bnd_cons.2 ⟨HV hkb x.2.1,GX G.bnd⟩⟩
  ·
   rintro e a6 J h
   cases e with
   |normal=>obtain⟨Z,ds',hs',h⟩:=h;exact h
   |ret=>obtain⟨_,_,_,h⟩:=h;exact h.elim
   |exit i=>obtain⟨_,_,_,h⟩:=h;exact h.elim
   |goto i=>obtain⟨_,_,_,h⟩:=h;exact h.elim
   |panic c=>obtain⟨_,_,_,h⟩:=h;exact h.elim
   |outgrown=>exact h.elim
 ·
  rintro D xs V hD hS ⟨f2,a2,c2,G,-⟩ hK;have hS2:fJ xs=(k.list.take m).reverse:=hS;rw[hS2,fX m k tl hm hg] at G;exact⟨σ,_,⟨ha.size,by rw[ha.defs],ha.val⟩,hQ D V f2 a2 c2 G (Nat.le_trans F.exm.stp.size hD) hK⟩
theorem X3(w:wO)(f:Fq)(h:Vl w f)(x t:T1)(b:Nat)(D:Al w f (x.cons t.one) (some ⟨b,0,none⟩) 2) :
  AX prog 14 #[S Ga,.slice (some ⟨b,0,none⟩) 2 2] w (AU (α:=oA×Nat) (λy=>tV (.con Ga (x.cons t.one)) y.1 y.2) (λ_=>True) (λy=>[λw f=>Al w f (x.cons t.one) y.1 y.2]) w f):=by
 have e:(x.cons t.one).len=2:=by simp[T1.len_cons,T1.one,Ty.len]
 have d:=Dq w f h Ga (x.cons t.one) (some ⟨b,0,none⟩) 2 oM D;rw[e] at d;exact d
theorem ME(w:wO)(f:Fq)(hv:Vl w f)(k:Ty)(a:oA)(c:Nat)(hk0:0<k.len)(K:k.len≤200000)(L:k.bnd)(O:Al w f k a c) :
  AX prog 18 #[.slice a k.len c] w (AU (α:=oA×Nat) (λx=>tV (GC k) x.1 x.2) (λ_=>True) (λx=>[λw f=>Al w f (GC k).kids x.1 x.2]) w f):=by
 refine menM (X:=X0 w f) (H:=[]) (R:=[]) (B:=[]) (Fs:=[λw f=>Al w f k a c]) (f:=f) func18 C C C (Be hv ⟨O,tQ⟩ ⟨Al.mono,tQ⟩)<|Aa 6 (λb1=>λ_=>?_);obtain⟨m,hm⟩:∃m,k.len=m+1:=⟨k.len-1,oM⟩;obtain⟨tl,J⟩:=II (k:=k) (i:=m) oM;refine Hh (α:=Nat×Nat×oA×Nat) (λx=>a=some ⟨x.1,x.2.1,none⟩) (λx=>[⟨x.1,x.2.1+((k.len:Int)-1).toNat*4,tC tl x.2.2.1 x.2.2.2⟩]) (λx=>[λw f=>Al w f tl.kids x.2.2.1 x.2.2.2]) (λw f F=>let ⟨b,off,ka,kc,U,Y,Z⟩:=Al.nth F.f0 J;⟨(b,off,ka,kc),U,(λe he=>by cases he with|head=>(rw[show ((k.len:Int)-1).toNat=m by omega];exact Y)|tail _ h=>cases h),AR.mem ⟨Z,tQ⟩⟩) (λx=>Au.mem ⟨Al.mono,tQ⟩) ?_;rintro⟨eb,eo,ta,tc⟩ rfl;refine Ae 18 [100,0,0] (aI ⟨oM,oM⟩<|aI oM<|y2<|λb2=>y<|aI ⟨oM,oM⟩<|λ_=>BN C C (λw f F=>IH (i:=m) (show ((k.len:Int)-1)=(m:Int) by omega) C C Sv (by have:=O.1;omega))<|CR C C (eC rO C C) (λw f F=>X5 w f F.vl (some ⟨eb,eo,none⟩) m c) (λx=>⟨λ_ _ _ _ h hF=>Cs.mono h hF,tQ⟩) ?_);rintro Bs -;refine Aa 3 (λ_=>?_);intro W f1 G;have hM2:=G.less (H':=[⟨b2,tC tl ta tc,29,true⟩,⟨b1,zT,29,true⟩]) (R':=[]) (B':=[]) (F':=[λw f=>Cs w f Bs 0 [.slice (some ⟨eb,eo,none⟩) m c],λw f=>Al w f tl.kids ta tc]) sR sR nE (mR [0,1]);refine cP w f hv k _ c m tl K hm J L O b1 b2 Bs ta tc _ C C C C (λx V f2 Qa d=>?_) (λx V f2 t a2 c2 b5 Qb htb hxb d=>?_) W f1 hM2 (λD V f2 a2 c2 hI hD hK=>?_)
 · exact Ae 3 [0] (λb5=>y<|λ_=>d b5)
 ·
  refine Ae 3 [100,0,0] (y2<|y<|λb6=>λ_=>?_);refine Di 0 C C<|BI (λw f=>Al w f (x.1.2.1.cons t.one) (some ⟨b6,0,none⟩) 2) (λw f F=>VE F.b0 F.f1 F.f0) Al.mono<|CR C C (eC C8 C C) (λw f F=>X3 w f F.vl x.1.2.1 t b6 F.f0) (λ_=>⟨Al.mono,tQ⟩) ?_;rintro⟨a3,c3⟩ -;exact Ae 2 [0] (y<|λ_=>λw9 f9 hM9=>d a3 c3 _ _ w9 f9 (hM9.less sR sR (λ_ h=>h) (λφ h=>by rcases List.mem_cons.1 h with rfl|h;exact .head _;exact .tail _ (.tail _ h))))
 have hD1:w.heap.size≤b1:=G.hnw _ (.tail _ (.head _)) C;have hD2:w.heap.size≤b2:=G.hnw _ (.head _) C;have hne:b2≠b1:=λe=>by have:=G.nd;simp[Cf,e] at this
 refine IA (Dr (BF (C6 (Ac C (C4 C CA hI.k3 C) (AA C C C CA C hI.k2 C C λV2 hb2 hC=>Ah (Dr (J6 ?_)))))));obtain⟨U,Y,Z,h4⟩:=hI.fin hD1 hD hK hC;exact⟨D,C,Z,_,Ao C (Ab C CA (show AS _ b1 _ 29 from (World.putObj_heap_other (Ne.symm h4)).trans hb2) C),(a2,c2),f2,C,tQ,U,Y,tQ⟩
theorem Ye(n:Nat)(U:∀ (w:wO) (f:Fq) (hv:Vl w f) (A:Ad) (W:A.ok) (s:CS) (hC:AN 146 224 A s w f) (hf:∀b,Dk A b→f b=0) (hw:Im s) (op ln co nm:Int) (tx:lU) (kids:Nd) (D:oA) (nc:Nat) (e:BJ) (F:oA),kids.size<n+1→kids.size≤200000→TU op kids→Bc w f kids D nc→JI e→BC w f e F→s.fresh+200002*(kids.size+1)≤800000000000→BV prog 102 #[pB A.cb,.agg #[iV op,iV ln,iV co,S tx,iV nm,.slice D kids.len nc],.pointer F] w (EF (α:=(T1×oA×Nat)×CS) (λx=>tV x.1.1 x.1.2.1 x.1.2.2) (λx=>FC n (EH n) s e op ln co tx kids=.ok (x.1.1,x.2)∧x.1.1.bnd∧Im x.2∧x.2.fresh+1≤s.fresh+200002*(kids.size+1)) (Dk A) (λx=>AN 146 224 A x.2) (λx=>[λw f=>Al w f x.1.1.kids x.1.2.1 x.1.2.2]) w f) (PanE 134 (Dk A) (λer=>FC n (EH n) s e op ln co tx kids=.error er) w f))(w:wO)(f:Fq)(hv:Vl w f)(A:Ad)(W:A.ok)(s:CS)(hC:AN 146 224 A s w f)(hf:∀b,Dk A b→f b=0)(hw:Im s)(op ln co nm:Int)(tx:lU)(kids:Nd)(D:oA)(nc:Nat)(e:BJ)(F:oA)(hm:kids.size<n+1)(Y:kids.size≤200000)(Z:TU op kids)(hN:Bc w f kids D nc)(heB:JI e)(L:BC w f e F)(hfb:s.fresh+200002*(kids.size+1)≤800000000000) :
  BV prog 72 #[pB A.cb,.agg #[iV op,iV ln,iV co,S tx,iV nm,.slice D kids.len nc],.pointer F] w (EF (α:=(T1×oA×Nat)×CS) (λx=>tV x.1.1 x.1.2.1 x.1.2.2) (ExpQ (n+1) s e op ln co tx nm kids) (Dk A) (λx=>AN 146 224 A x.2) (λx=>[λw f=>Al w f x.1.1.kids x.1.2.1 x.1.2.2]) w f) (PanE 134 (Dk A) (λer=>EH (n+1) s e op ln co tx nm kids=.error er) w f):=by
 refine TV (X:=XC 146 224 A s w f) (H:=[]) (R:=[]) (B:=[]) (Fs:=[λw f=>Bc w f kids D nc,λw f=>BC w f e F]) (f:=f) func72 C C C (Tq hv hC hf ⟨hN,L,tQ⟩ ⟨Bc.mono,BC.mono,tQ⟩)<|Ae 11 [1] (λb1=>λb2=>y<|λ_=>XO C C (eC iC C C) (λ_ h=>h) (λw f d=>U w f d.vl A W s d.res d.mz hw op ln co nm tx kids D nc e F hm Y Z d.f0 heB d.f1 hfb) (λ_=>AN.stab) (λ_=>⟨Al.mono,tQ⟩) (λer w2 f2 he L=>⟨C,er,f2,C,(by rw[EH,he]),L⟩) ?_);rintro⟨⟨t,ta,tc⟩,s1⟩ ⟨G,J,K,O⟩;dsimp only at G J K O ⊢;refine Ae 10 [0,0,2] (λb3=>y<|y<|y<|λ_=>XO C C (eC OK C C) (λ_ h=>h) (λw f d=>G6 w f d.vl A W s1 d.res d.mz K t ta tc J d.f0 ln co) (λ_=>AN.stab) (λ_=>⟨Al.mono,tQ⟩) (λer w2 f2 he L=>⟨C,er,f2,C,(by rw[EH,G];simp only;rw[he]),L⟩) ?_);rintro⟨tf,fa9,fc9⟩ ⟨Q,-,-⟩;dsimp only at Q ⊢;exact Ae 9 [0,1] (y<|y<|λ_=>A5 (λw f d=>Ao C (Ab C CA d.k1 C)) (λw f d=>⟨((t,ta,tc),s1),f,C,⟨(by rw[EH,G];simp only;rw[Q]),J,K,O⟩,d.exm,d.res,⟨d.f1,tQ⟩⟩))
end Go.Proofs.YtnojaendcldjpaaGreatDoor
namespace Go.Proofs.YtnojaendcldjpaaGreatDoor
open Go.SW Go.SP Go.RowKit
end Go.Proofs.YtnojaendcldjpaaGreatDoor
