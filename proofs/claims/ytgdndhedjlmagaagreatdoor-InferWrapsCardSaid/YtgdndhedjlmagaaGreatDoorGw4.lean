/- What it rests on, part 4. -/
import Derived.Test.YtgdndhedjlmagaaGreatDoorGw3
import Derived.Shelf.Strings.OnBuilder
import Derived.Shelf.Strconv.Itoa3
import Derived.Shelf.Strings.Fields
set_option linter.unusedVariables false
set_option linter.unusedSimpArgs false
namespace Go.SP
open Go.SW Go.RowKit
theorem HS{α:Type}(p:α→Bool):∀(l:List α),l.dropWhile p=[]↔∀x∈l,p x=true
 | []=>by simp
 |a::l=>by
   have D:=HS p l
   cases h:p a <;> simp[List.dropWhile,h,D]
theorem JA{α:Type}(p:α→Bool):∀(l:List α)(a:α)(r:List α),l.dropWhile p=a::r→p a=false
 | [],_,_,h=>by simp at h
 |b::l,a,r,h=>by
   cases D:p b with
   |true=>rw[List.dropWhile_cons_of_pos D] at h;exact JA p l a r h
   |false=>rw[List.dropWhile_cons_of_neg (by simp[D])] at h;cases h;exact D
theorem aP(s l:lU):HO s l=s.all (l.contains ·):=by
 have key:Lib.trimS s l=[]↔∀x∈s,l.contains x=true:=by
   unfold Lib.trimS Lib.trimLeftS Lib.trimRightS;rw[HS];constructor
   · intro h
     cases hd:s.reverse.dropWhile (l.contains ·) with
     |nil=>intro x G;exact (HS _ _).1 hd x (by simpa using G)
     |cons a r =>
       have J:=JA _ _ _ _ hd;have D:=h a (by rw[hd];simp);rw[J] at D;cases D
   · intro h x G
     exact h x (by have:=(List.dropWhile_suffix (l.contains ·) (l:=s.reverse)).subset (by simpa using G);simpa using this)
 unfold HO
 cases h:s.all (l.contains ·) with
 |true=>rw[key.2 (by simpa using h)];rfl
 |false =>
   have:¬Lib.trimS s l=[]:=λe=>by
     have:=key.1 e;have D:s.all (l.contains ·)=true:=by simpa using this
     rw[h] at D;cases D
   simp[this]
theorem bJ{c:UInt8}(h:Gq.contains c=true):48≤c.toNat∧c.toNat≤57:=by
 simp only[Gq,List.contains_cons,List.contains_nil,Bool.or_false,Bool.or_eq_true,beq_iff_eq] at h;rcases h with rfl|rfl|rfl|rfl|rfl|rfl|rfl|rfl|rfl|rfl <;> decide
theorem GI{s:lU}(h:EP s=true):(s==[])=false∧∀c∈s,48≤c.toNat∧c.toNat≤57:=by
 unfold EP at h;rw[aP,Bool.and_eq_true] at h;exact⟨by simpa using h.1,λc D=>bJ (List.all_eq_true.1 h.2 c D)⟩
theorem IG(r:lU):Bm (45::r)=r:=by
 simp[Bm,Lib.trimPrefix,Lib.hasPrefix,List.isPrefixOf]
theorem IQ{s:lU}(h:PB s=false):Bm s=s:=by
 unfold Bm Lib.trimPrefix
 cases s with
 |nil=>simp
 |cons c r =>
   have:c≠45:=by simpa[PB] using h
   simp[Lib.hasPrefix,List.isPrefixOf,this.symm]
theorem QD{r:lU}(h:EP r=true):Ic (45::r)=if CT 0 r<4611686018427387905 then some (-(CT 0 r:Int)) else none:=by
 unfold Ic;rw[IG,h];simp[PB,Nat.lt_succ_iff]
theorem Qe{s:lU}(D:PB s=false)(h:EP s=true):Ic s=if CT 0 s<4611686018427387904 then some (CT 0 s:Int) else none:=by
 unfold Ic;rw[IQ D,h,D];simp
theorem KN(s:lU):PB s=false∨∃r,s=45::r:=by
 cases s with
 |nil=>exact .inl C
 |cons c r =>
   by_cases h:c=45
   · exact .inr ⟨r,by rw[h]⟩
   · left;simp[PB,h]
theorem FO(s:lU):(Bm s).length≤s.length:=by
 rcases KN s with h|⟨r,rfl⟩
 · rw[IQ h];exact Nat.le_refl _
 · rw[IG];simp
end Go.SP
namespace Go.SP
theorem Uw(s t:lU):(Lib.cut s t).1.length≤s.length:=by
 unfold Lib.cut
 split
 · simp only[List.length_take];exact Nat.min_le_right _ _
 · exact Nat.le_refl _
theorem SU(s t:lU):(Lib.cut s t).2.1.length≤s.length:=by
 unfold Lib.cut
 split
 · simp
 · simp
end Go.SP
namespace Go.SP
def wsel(s:lU)(a b c d e f g:Bool):Option (Int×Int×lU):=if a||(b&&c) then none else if d&&e then some (6,0,s) else if f&&g then some (5,0,s) else none
theorem CK{s:lU}(h:Ic s=none)(D:IB s=none):Gj s=wsel s (decide ((40:Int)<s.length)) (!(Bm s==[])) (HO (Bm s) Gq) (HO (s.take 1) F4) (HO s (F4++EE++Gq)) (HO (s.take 1) (EE++G7)) (HO s (F4++EE++Gq++G7)):=by
 rw[Gj,h];simp only[D];rfl
end Go.SP
namespace Go.SP
variable {j:Nat}
theorem Q0{p:Ps}{src:lU}(h:¬j<src.length∨∃c,src[j]?=some c∧((c.toNat:Int) != 10)=false):GJ p (src.drop j)=(src.drop j,p):=by
 rcases h with h|⟨c,D,h⟩
 · rw[List.drop_eq_nil_of_le (by omega)];rfl
 · rw[Bj D,GJ,if_neg (by rw[h];decide)]
theorem Zh{p:Ps}{src:lU}{c:UInt8}(D:src[j]?=some c)(h:((c.toNat:Int) != 10)=true):GJ p (src.drop j)=GJ (adv c p) (src.drop (j+1)):=by
 rw[Bj D,GJ,if_pos h]
theorem Pd{p:Ps}{src:lU}(h:¬j<src.length∨∃c,src[j]?=some c∧decide (Lib.indexByte KA c<0)=false):Cr p (src.drop j)=([],src.drop j,p):=by
 rcases h with h|⟨c,D,h⟩
 · rw[List.drop_eq_nil_of_le (by omega)];rfl
 · rw[Bj D,Cr,if_neg (by rw[h];decide)]
theorem VL{p:Ps}{src:lU}{c:UInt8}(D:src[j]?=some c)(h:decide (Lib.indexByte KA c<0)=true) :
   Cr p (src.drop j)=(c::(Cr (adv c p) (src.drop (j+1))).1,(Cr (adv c p) (src.drop (j+1))).2):=by
 rw[Bj D,Cr,if_pos h]
def Fl(src:lU)(i j:Nat):lU:=(src.take j).drop i
theorem WE(src:lU)(i:Nat):Fl src i i=[]:=by
 unfold Fl;rw[List.drop_eq_nil_of_le (by simp;omega)]
theorem UZ{src:lU}{i:Nat}{c:UInt8}(h:i≤j)(D:src[j]?=some c):Fl src i (j+1)=Fl src i j++[c]:=by
 obtain⟨G,he⟩:=List.getElem?_eq_some_iff.1 D;unfold Fl;rw[List.take_succ_eq_append_getElem G,List.drop_append_of_le_length (by simp;omega),he]
theorem AV{src:lU}{i:Nat}{c:UInt8}(h:i<j)(D:src[i]?=some c):Fl src i j=c::Fl src (i+1) j:=by
 unfold Fl;have:(src.take j)[i]?=some c:=by rw[List.getElem?_take,if_pos h,D]
 exact Bj this
theorem Fi(src:lU)(i j:Nat):(Fl src i j).length≤src.length:=by
 unfold Fl;simp only[List.length_drop,List.length_take];omega
section
variable{F i:Nat}{p:Ps}{src:lU}{c:UInt8}
theorem B3(r:lU):CN F p (c::r) =
   (if decide ((0:Int)≤Lib.indexByte ER c) then .ok ([],r,adv c p)
   else if (c.toNat:Int)==59 then .ok ([],GJ (adv c p) r)
   else if (c.toNat:Int)==40 then .ok ([⟨0,p.1,p.2,0,[]⟩],r,adv c p)
   else if (c.toNat:Int)==41 then .ok ([⟨1,p.1,p.2,0,[]⟩],r,adv c p)
   else if (c.toNat:Int)==34 then (match DU p F (adv c p) [] r with
     |.error e=>.error e
     |.ok (tx,h,D)=>.ok ([⟨4,p.1,p.2,0,tx⟩],h,D))
   else (match Gj (c::(Cr (adv c p) r).1) with
     |none=>.error p
     |some (k,nm,tx)=>.ok ([⟨k,p.1,p.2,nm,tx⟩],(Cr (adv c p) r).2))):=rfl
theorem TW(h:src[i]?=some c)(D:decide ((0:Int)≤Lib.indexByte ER c)=true):CN F p (src.drop i)=.ok ([],src.drop (i+1),adv c p):=by rw[Bj h,B3,if_pos D]
theorem Q7(h:src[i]?=some c)(D:decide ((0:Int)≤Lib.indexByte ER c)=false)(G:((c.toNat:Int)==59)=true):CN F p (src.drop i)=.ok ([],GJ (adv c p) (src.drop (i+1))):=by
 rw[Bj h,B3,if_neg (by rw[D];decide),if_pos G]
theorem S1(h:src[i]?=some c)(D:decide ((0:Int)≤Lib.indexByte ER c)=false)(G:((c.toNat:Int)==59)=false)(J:((c.toNat:Int)==40)=true):CN F p (src.drop i)=.ok ([⟨0,p.1,p.2,0,[]⟩],src.drop (i+1),adv c p):=by
 rw[Bj h,B3,if_neg (by rw[D];decide),if_neg (by rw[G];decide),if_pos J]
theorem TJ(h:src[i]?=some c)(D:decide ((0:Int)≤Lib.indexByte ER c)=false)(G:((c.toNat:Int)==59)=false)(J:((c.toNat:Int)==40)=false)(K:((c.toNat:Int)==41)=true):CN F p (src.drop i)=.ok ([⟨1,p.1,p.2,0,[]⟩],src.drop (i+1),adv c p):=by
 rw[Bj h,B3,if_neg (by rw[D];decide),if_neg (by rw[G];decide),if_neg (by rw[J];decide),if_pos K]
theorem Iw(h:src[i]?=some c)(D:decide ((0:Int)≤Lib.indexByte ER c)=false)(G:((c.toNat:Int)==59)=false)(J:((c.toNat:Int)==40)=false)(K:((c.toNat:Int)==41)=false)(L:((c.toNat:Int)==34)=true) :
   CN F p (src.drop i)=(match DU p F (adv c p) [] (src.drop (i+1)) with
     |.error e=>.error e
     |.ok (tx,O,Q)=>.ok ([⟨4,p.1,p.2,0,tx⟩],O,Q)):=by
 rw[Bj h,B3,if_neg (by rw[D];decide),if_neg (by rw[G];decide),if_neg (by rw[J];decide),if_neg (by rw[K];decide),if_pos L]
theorem BT(h:src[i]?=some c)(D:decide ((0:Int)≤Lib.indexByte ER c)=false)(G:((c.toNat:Int)==59)=false)(J:((c.toNat:Int)==40)=false)(K:((c.toNat:Int)==41)=false)(L:((c.toNat:Int)==34)=false) :
   CN F p (src.drop i)=(match Gj (c::(Cr (adv c p) (src.drop (i+1))).1) with
     |none=>.error p
     |some (k,nm,tx)=>.ok ([⟨k,p.1,p.2,nm,tx⟩],(Cr (adv c p) (src.drop (i+1))).2)):=by
 rw[Bj h,B3,if_neg (by rw[D];decide),if_neg (by rw[G];decide),if_neg (by rw[J];decide),if_neg (by rw[K];decide),if_neg (by rw[L];decide)]
end
end Go.SP
namespace Go.SP
theorem Ip(F n:Nat)(p:Ps):Ee F n p []=.ok []:=by cases n <;> rfl
def UP(t:List A4):Except Ps (List A4)→Except Ps (List A4)
 |.error e=>.error e
 |.ok l=>.ok (t++l)
theorem gO(x:Except Ps (List A4)):UP [] x=x:=by cases x <;> rfl
theorem Fg(F n:Nat)(p:Ps)(c:UInt8)(r:lU):Ee F (n+1) p (c::r)=(match CN F p (c::r) with
   |.error e=>.error e
   |.ok (t,h,D)=>match Ee F n D h with
     |.error e=>.error e
     |.ok l=>.ok (t++l)):=rfl
variable {ot toks:List A4}{j n:Nat}{p1:Ps}
theorem Ze{F:Nat}{q e:Ps}{src:lU}{c:UInt8}(h:src[j]?=some c)(he:CN F q (src.drop j)=.error e):Ee F (n+1) q (src.drop j)=.error e:=by
 rw[Bj h] at he ⊢;rw[Fg,he]
theorem WA{F:Nat}{q:Ps}{src h:lU}{c:UInt8}{x:Except Ps (List A4)}(G:src[j]?=some c)(D:CN F q (src.drop j)=.ok (ot,h,p1))
   (hm:x=UP toks (Ee F (n+1) q (src.drop j))):x=UP (toks++ot) (Ee F n p1 h):=by
 rw[Bj G] at D hm;rw[hm,Fg,D];simp only[]
 cases Ee F n p1 h with
 |error e=>rfl
 |ok l=>simp[UP]
theorem Qy{F:Nat}{p:Ps}{l r:lU}(h:CN F p l=.ok (ot,r,p1)):ot.length≤1:=by
 cases l with
 |nil=>cases h
 |cons c r =>
   rw[B3] at h
   repeat' split at h
   all_goals first
     |(simp only[Except.ok.injEq,Prod.mk.injEq] at h;rw[← h.1];simp)
     |cases h
end Go.SP
namespace Go.Proofs.YtgdndhedjlmagaaGreatDoor
open Go.SW Go.SP Go.RowKit Go.Proofs.Tryz
theorem ND(w:wO)(s:lU)(hlen:s.length≤100000)(h:EP (Bm s)=true) :
  BF prog 119 #[S s,iV 10,iV 63] w λv w'=>((∃n,Ic s=some n∧v=.tuple #[iV n,.nilIface])∨(Ic s=none∧∃z,v=.tuple #[iV z,.iface 206 (iV 1)]))∧AY w w':=by
 rcases KN s with F|⟨r,rfl⟩
 ·
  rw[IQ F] at h;obtain⟨G,J⟩:=GI h;refine (RV w s hlen G J).mono ?_;rintro v w' ⟨⟨K,rfl⟩|⟨L,z,rfl⟩,D⟩
  · exact⟨.inl ⟨_,by rw[Qe F h,if_pos K],C⟩,D⟩
  · exact⟨.inr ⟨by rw[Qe F h,if_neg (by omega)],z,C⟩,D⟩
 ·
  rw[IG] at h;obtain⟨G,J⟩:=GI h;refine (R2 w r hlen G J).mono ?_;rintro v w' ⟨⟨K,rfl⟩|⟨L,z,rfl⟩,D⟩
  · exact⟨.inl ⟨_,by rw[QD h,if_pos K],C⟩,D⟩
  · exact⟨.inr ⟨by rw[QD h,if_neg (by omega)],z,C⟩,D⟩
theorem P7(w:wO)(J:Gl w)(s:lU)(hlen:s.length≤100000)(K:EP (Bm s)=true) :
  BF prog 97 #[S s,iV 10,iV 63] w λv w'=>((∃n,Ic s=some n∧v=.tuple #[iV n,.nilIface])∨(Ic s=none∧∃z T u,v=.tuple #[iV z,.iface T u]))∧AY w w':=by
 have h:=AY.refl w;refine enter func97 C C C<|AW [] 11 [] (As _) (λ_=>A5 C (Ay rM C C) (ND _ s hlen K) ?_);rintro _ U ⟨(⟨n,G,rfl⟩|⟨G,z,rfl⟩),D⟩;replace h:=h.trans D;have L:=D.size;exact AP [.sq _] 11 [] (As _) (λ_=>Ab C (Ik Gw C)<|AP [.sq _,.sq _] 13 [] (As _) (λ_=>Bv (C7 C (Al C) (Al C))<|⟨.inl ⟨n,G,C⟩,h⟩));replace h:=h.trans D;have O:=D.size;refine AP [.sq _] 11 [] (As _) (λ_=>Ab C (Lt Gw C)<|AP [.sq _,.sq _] 10 [] (As _) (λ_=>A5 C (Ay rQ C C) (RF _ (J.ext h) _ s _ _ hlen) ?_));rintro _ W ⟨⟨eT,Y,rfl⟩,F⟩;replace h:=h.trans F;have Q:=F.size;exact AP [.sq _,.sq _] 6 [] (As _) (λ_=>Bv (C7 C (Al C) (Al C))<|⟨.inr ⟨G,z,_,_,C⟩,h⟩)
theorem YG(w:wO)(L:Gl w)(s:lU)(hlen:s.length≤100000) :
  BF prog 68 #[S s] w λv w'=>((∃n,Ic s=some n∧v=.tuple #[iV n,iV 0])∨(Ic s=none∧∃e:Int,(e==0)=false∧v=.tuple #[iV 0,iV e]))∧AY w w':=by
 have h:=AY.refl w;refine enter func68 C C C<|AW [] 10 [] (As _) (λ_=>A5 C (Ay gY C C) (Gx _ s [45]) ?_);rintro _ Y ⟨rfl,G⟩;replace h:=h.trans G;have O:=G.size;refine A5 C (Ay bR C C) (J0 _ (Bm s) (by have:=FO s;omega)) ?_;rintro _ Z ⟨rfl,J⟩;replace h:=h.trans J;have Q:=J.size;refine AP [.sq _,.sq _] 3 [] (As _) (λ_=>sP 9 C (λF=>?_) (λF=>?_));replace F:=FM F;exact AW [.sq _] 9 [] (As _) (λ_=>Bv (C7 C (Al C) (Al C))<|⟨.inr ⟨by rw[Ic,F];rfl,2,dC,C⟩,h⟩);replace F:=Gt F;refine AW [.sq _] 6 [] (As _) (λ_=>A5 C (Ay ent97 C C) (P7 _ (L.ext h) s hlen F) ?_);rintro _ w3 ⟨(⟨n,K,rfl⟩|⟨K,z,eT,eV,rfl⟩),D⟩;replace h:=h.trans D;have U:=D.size;exact AP [.sq _] 11 [] (As _) (λ_=>Ab C (Ik Gw C)<|AP [.sq _,.sq _] 13 [] (As _) (λ_=>Bv (C7 C (Al C) (Al C))<|⟨.inl ⟨n,K,C⟩,h⟩));replace h:=h.trans D;have W:=D.size;exact AP [.sq _] 11 [] (As _) (λ_=>Ab C (Lt Gw C)<|AP [.sq _,.sq _] 11 [] (As _) (λ_=>Bv (C7 C (Al C) (Al C))<|⟨.inr ⟨K,4,dC,C⟩,h⟩))
def yY:Prop:=∀(w:wO)(s a b:lU),Gl w→s.length≤100000→HT s=some (a,b)→BF prog 99 #[S s,iV 64] w λv w'=>v=.tuple #[.float .f64 (Nb (PB s) a b),.nilIface]∧AY w w'
theorem qK:Extern.findNext Tryz.f124=none:=kR
theorem vP:Extern.find Tryz.f124=some Extern.MathFloatBits.float64bits:=kR
theorem UW(w:wO)(f:Nat) :
  BF prog 123 #[.float .f64 f] w λv w'=>v=.bool (!(Op.floatEq .f64 f f))∧AY w w':=by
 have h:=AY.refl w;exact enter func123 C C C<|AW [] 9 [] (As _) (λ_=>Ab C (vR C C)<|AP [.sq _] 4 [] (As _) (λ_=>Bv (AG C (Al C))<|⟨C,h⟩))
theorem nH(w:wO)(f:Nat) :
  BF prog 100 #[.float .f64 f] w λv w'=>v=.int .u64 ((if Op.floatEq .f64 f f then f else 9221120237041090560:Nat):Int)∧AY w w':=by
 have F:=AY.refl w;refine enter func100 C C C<|AW [] 9 [] (As _) (λ_=>A5 C (Ay uG C C) (UW _ f) ?_);rintro _ K ⟨rfl,h⟩;replace F:=F.trans h;have J:=h.size;refine AP [.sq _,.sq _] 2 [] (As _) (λ_=>sP 4 C (λG=>?_) (λG=>?_));refine AW [.sq _] 8 [] (As _) (λ_=>Bv (AG C (Al C))<|⟨?_,F⟩);have D:=G;simp at D;simp[D];refine AW [.sq _] 6 [] (As _) (λ_=>Ab C (dW func124 C C qK vP C C C)<|AP [.sq _] 4 [] (As _) (λ_=>Bv (AG C (Al C))<|⟨?_,F⟩));have D:=G;simp at D;simp[D]
theorem NS(Y:yY)(w:wO)(hG:Gl w)(s:lU)(hlen:s.length≤100000) :
  BF prog 69 #[S s] w λv w'=>((∃x:Nat,IB s=some x∧v=.tuple #[.int .u64 (x:Int),iV 0])∨(IB s=none∧∃e:Int,(e==0)=false∧v=.tuple #[.int .u64 0,iV e]))∧AY w w':=by
 have hcl1:=Uw (Bm s) [46];have hcl2:=SU (Bm s) [46];have hwl:=FO s;have h:=AY.refl w;refine enter func69 C C C<|AW [] 9 [] (As _) (λ_=>A5 C (Ay gY C C) (Gx _ s [45]) ?_);rintro _ w1 ⟨rfl,K⟩;replace h:=h.trans K;have sz1:=K.size;refine A5 C (Ay ent98 C C) (fI _ (hG.ext h) (Bm s) [46] (by have:=FO s;omega)) ?_;rintro _ w2 ⟨rfl,L⟩;replace h:=h.trans L;have sz2:=L.size;refine AP [.sq _] 16 [] (As _) (λ_=>sL 19 C (λF=>?_) (λF=>?_));replace F:=FM F;refine AP [.sq _,.bk _,.sq _] 22 [] (As _) (λ_=>Bv (C7 C (Al C) (Al C))<|⟨.inr ⟨?_,2,dC,C⟩,h⟩);rw[IB,HT,if_neg];simp[F];replace F:=Gt F;refine AP [.sq _,.bk _,.sq _] 1 [] (As _) (λ_=>BN C C C<|A5 C (Ay bR C C) (J0 _ (Lib.cut (Bm s) [46]).1 (by have:=Uw (Bm s) [46];have:=FO s;omega)) ?_);rintro _ w3 ⟨rfl,O⟩;replace h:=h.trans O;have sz3:=O.size;refine AP [.sq _,.bk _,.sq _] 3 [] (As _) (λ_=>sL 24 C (λG=>?_) (λG=>?_));replace G:=FM G;refine AP [.sq _,.bk _,.sq _] 17 [] (As _) (λ_=>Bv (C7 C (Al C) (Al C))<|⟨.inr ⟨?_,2,dC,C⟩,h⟩);rw[IB,HT,if_neg];simp[F,G];replace G:=Gt G;refine AP [.sq _,.bk _,.sq _] 1 [] (As _) (λ_=>BN C C C<|A5 C (Ay bR C C) (J0 _ (Lib.cut (Bm s) [46]).2.1 (by have:=SU (Bm s) [46];have:=FO s;omega)) ?_);rintro _ w4 ⟨rfl,Q⟩;replace h:=h.trans Q;have sz4:=Q.size;refine AP [.sq _,.bk _,.sq _] 5 [] (As _) (λ_=>sP 16 C (λJ=>?_) (λJ=>?_));replace J:=FM J;refine AW [.bk _,.sq _] 10 [] (As _) (λ_=>Bv (C7 C (Al C) (Al C))<|⟨.inr ⟨?_,2,dC,C⟩,h⟩);rw[IB,HT,if_neg];simp[F,G,J];replace J:=Gt J;refine AW [.bk _,.sq _] 12 [] (As _) (aI ⟨oM,oM⟩<|λ_=>sP 29 C (λZ=>?_) (λZ=>?_));refine AW [.bk _,.sq _] 10 [] (As _) (λ_=>Bv (C7 C (Al C) (Al C))<|⟨.inr ⟨?_,4,dC,C⟩,h⟩);rw[IB,HT,if_neg];have h9:=Z;simp at h9;simp[F,G,J] <;> omega
 refine AW [.bk _,.sq _] 5 [] (As _) (λ_=>?_)
 have D:HT s=some ((Lib.cut (Bm s) [46]).1,(Lib.cut (Bm s) [46]).2.1):=by
  unfold HT;rw[if_pos];have h9:=Z;simp at h9;simp[F,G,J] <;> omega
 refine AW [.sq _] 2 [] (As _) (λ_=>A5 C (Ay xA C C) (Y _ s _ _ (hG.ext h) hlen D) ?_);rintro _ w5 ⟨rfl,U⟩;replace h:=h.trans U;have sz5:=U.size;refine AP [.sq _] 11 [] (As _) (λ_=>Ab C (Ik Gw C)<|AP [.sq _,.sq _] 8 [] (As _) (λ_=>A5 C (Ay sQ C C) (nH _ _) ?_));rintro _ w6 ⟨rfl,W⟩;replace h:=h.trans W;have sz6:=W.size;exact AP [.sq _] 5 [] (As _) (λ_=>Bv (C7 C (Al C) (Al C))<|⟨.inl ⟨_,by rw[IB,D],C⟩,h⟩)
theorem Wo(w:wO)(x:Nat) :
  BF prog 70 #[.int .u64 (x:Int)] w λv w'=>v=S (Po x)∧AY w w':=by
 have D:=AY.refl w;refine enter func70 C C C<|AW [] 17 [] (As _) (λ_=>?_);refine Em (λk σ ds w'=>∃(j:Nat)(acc:lU)(L:oA)(rc:Nat),k=j∧ds=[]∧σ=(E3 0 (.int .u64 (x:Int)) 3 (.slice L acc.length rc) 4 (iV (8*(j:Int)-8)))∧j≤8∧Po x=acc++QA x j∧acc.length+j=8∧C0 w' 5 1 L rc acc.length (bC acc)∧(∀y,rb L=some y→w.heap.size≤y)∧AY w w') 8 (E3 0 (.int .u64 (x:Int)) 3 (.slice none 0 0) 4 (iV (8*((8:Nat):Int)-8))) lE ⟨8,[],none,0,C,C,C,Nat.le_refl _,C,C,GC _ _ _,(λy U=>by cases U),D⟩ ?_;rintro j _ _ wl ⟨_,acc,L,rc,rfl,rfl,rfl,hj,hm,hal,h,F,D⟩;have szl:=D.size;have W:∀y,rb L=some y→y<wl.heap.size:=λy U=>h.lt U;refine AW [] 7 [] (As _) (λ_=>sP 6 C (λY=>?_) (λY=>?_));refine AW [.sq _] 9 [] (As _) (λ_=>?_);obtain⟨j,rfl⟩:∃j1,j=j1+1:=⟨j-1,by have:=dT Y;omega⟩;refine Ab C (XV ((x / 2 ^ (8*j):Nat):Int) C C oM (by rw[show (8*((j+1:Nat):Int)-8).toNat=8*j by omega,show min (8*j) IntKind.u64.bits=8*j by simp[IntKind.bits];omega];exact SC _ _))<|Ab C (DL (m:=((UInt8.ofNat (x / 2 ^ (8*j))).toNat:Int)) C nP (sC _))<|Cv C C UE zr5 C C C C C λb1 w1 Z O hs1 hz1=>?_;replace h:=h.ext O;replace D:=D.trans O;refine Bi C aK C C C C h Z C C oM oM λG Q w2 hr2 hG=>?_;have J:∀y,rb G=some y→w.heap.size≤y:=Co hG F oM;replace D:=D.grow hG F;refine AP [.bk _,.sq _] 9 [] (As _) (aI ⟨oM,oM⟩<|λ_=>?_);have K:acc.length+1=(acc++[UInt8.ofNat (x / 2 ^ (8*j))]).length:=by simp
 refine HH j (E3 0 (.int .u64 (x:Int)) 3 (.slice G (acc++[UInt8.ofNat (x / 2 ^ (8*j))]).length Q) 4 (iV (8*(j:Int)-8))) oM (lu3 C (K▸rfl) (congrArg (λz:Int=>some (Value.int .i64 z)) (show (8*((j+1:Nat):Int)-8)-8=8*(j:Int)-8 by omega))) ⟨j,acc++[UInt8.ofNat (x / 2 ^ (8*j))],G,Q,C,C,C,oM,by rw[hm];simp[QA],by rw[← K];omega,by rw[← K,bC_app];exact hr2,J,D⟩;refine AW [.sq _] 3 [] (As _) (λ_=>O0<|KG [.bk _,.sq _] 5 [] (As _) (λ_=>Ab C (fG C Uu h)<|AP [.sq _] 4 [] (As _) (λ_=>Bv (AG C (Al C)) ?_)));have hj0:j=0:=by have:=dF Y;omega
 subst hj0;exact⟨by rw[hm];simp[QA],D⟩
theorem Ft(hPF:yY)(w:wO)(hG:Gl w)(s:lU)(hlen:s.length≤100000)(hne:s≠[])(at1:Ps) :
  BU prog 44 #[S s,.agg #[iV at1.1,iV at1.2]] w (λv w'=>∃k nm tx,Gj s=some (k,nm,tx)∧v=.agg #[iV k,iV at1.1,iV at1.2,iV nm,S tx]∧AY w w') (λc w'=>Gj s=none∧c=Sn 47 at1∧AY w w'):=by
 have J:(1:Int)≤s.length:=by
  cases s with
  |nil=>exact absurd C hne
  |cons a r=>simp only[List.length_cons];omega
 have F:=AY.refl w;refine ID func44 C C C<|AW [] 2 [] (As _) (λ_=>Ev C C C λb1 w1 h hE1 hs1 hz1=>?_);replace F:=F.trans hE1;refine CP C Gm λb2 w2 D hE2 hs2 hz2=>?_;replace h:=h.ext hE2;replace F:=F.trans hE2;refine AP [.sq _] 6 [] (As _) (λ_=>A5 C (Ay xC C C) (YG _ (hG.ext F) s hlen) ?_);rintro _ w3 ⟨(⟨n,K,rfl⟩|⟨K,er,her,rfl⟩),O⟩;replace h:=h.ext O;replace D:=D.ext O;replace F:=F.trans O;have sz1:=O.size;refine AP [.sq _,.sq _] 19 [0,0] (kB h (As _)) (y2<|λ_=>A3 C C C Ha C D C C λw4 hb3 hC1=>?_);replace h:=h.chg hC1 oM;replace F:=F.chg hC1 oM;have sz2:=hC1.size;exact AP [.sq _,.sq _] 4 [] (As _) (λ_=>Bv (AG C (Ae C Ha hb3 C))<|⟨2,n,[],by rw[Gj,K],C,F⟩);replace h:=h.ext O;replace D:=D.ext O;replace F:=F.trans O;have sz3:=O.size;refine AP [.sq _,.sq _] 13 [] (As _) (λ_=>kP 16 false C her<|AW [.sq _] 7 [] (As _) (λ_=>A5 C (Ay xI C C) (NS hPF _ (hG.ext F) s hlen) ?_));rintro _ w5 ⟨(⟨x,L,rfl⟩|⟨L,ef,hef,rfl⟩),Q⟩;replace h:=h.ext Q;replace D:=D.ext Q;replace F:=F.trans Q;have sz4:=Q.size;refine AP [.sq _,.sq _] 15 [] (As _) (λ_=>?_);have hr1:=h;refine Eg mixed (A6 w5 [b1]) [(true,0),(true,1),(false,2),(true,3),(false,4)] kR kR C C λw6 hE5 hz3=>?_;have Z:A6 w5 [b1] w6:=A6.cons hr1 hE5 (A6.nil _ _);refine⟨Z,?_⟩;replace h:=h.ext hE5;replace D:=D.ext hE5;replace F:=F.trans hE5;refine A1 C (λ_ hS=>Dr C Jh (hr1.keep hS (.head _)) C)<|A1 C (λ_ hS=>A0 C)<|EV<|A5 C (Ay yP C C) (Wo _ x) ?_;rintro _ w7 ⟨rfl,hE6⟩;replace h:=h.ext hE6;replace D:=D.ext hE6;replace F:=F.trans hE6;replace Z:=Z.ext hE6;have sz5:=hE6.size;refine Ac (H5 Z<|A1 C (λ_ hS=>DO C aD Gm C)<|EV<|A3 C C C Ha C D C C λw8 hb4 hC2=>?_);replace h:=h.chg hC2 oM;replace F:=F.chg hC2 oM;replace Z:=Z.chg hC2 nM;have sz6:=hC2.size;exact Ac (H5 Z<|Ex<|KG [.sq _,.sq _] 3 [] (As _) (λ_=>Bv (AG C (Ae C Ha hb4 C))<|⟨3,0,Po x,by rw[Gj,K];simp only[L],C,F⟩));replace h:=h.ext Q;replace D:=D.ext Q;replace F:=F.trans Q;have sz7:=Q.size;refine AP [.sq _,.sq _] 13 [] (As _) (λ_=>kP 26 false C hef<|AW [.sq _] 6 [] (As _) (λ_=>A5 C (Ay gY C C) (Gx _ s [45]) ?_));rintro _ w9 ⟨rfl,hE7⟩;replace h:=h.ext hE7;replace D:=D.ext hE7;replace F:=F.trans hE7;have sz8:=hE7.size;refine AP [.sq _] 11 [] (As _) (λ_=>sL 37 C (λU=>?_) (λU=>?_));exact AP [.sq _,.bk _,.sq _] 17 [0,0] (kB h (As _)) (y2<|λ_=>Ab C (Ck C JO)<|C6 (BR C) (aI C<|⟨by rw[CK K L,U];rfl,C,F⟩));refine AP [.sq _,.bk _,.sq _] 3 [] (As _) (λ_=>sL 40 C (λY=>?_) (λY=>?_));refine AP [.sq _,.bk _,.sq _] 1 [] (As _) (λ_=>BN C C C<|A5 C (Ay Ih C C) (CR _ (Bm s) (by have:=FO s;omega) Gq dC dC) ?_);rintro _ w10 ⟨rfl,hE8⟩;replace h:=h.ext hE8;replace D:=D.ext hE8;replace F:=F.trans hE8
 have sz9:=hE8.size;refine AP [.sq _,.bk _,.sq _] 5 [] (As _) (λ_=>sP 33 C (λh3=>?_) (λh3=>?_));refine AW [.bk _,.sq _] 7 [0,0] (kB h (As _)) (y2<|λ_=>Ab C (Ck C JO)<|C6 (BR C) (aI C ?_));have G:(!(Bm s==[]))=true:=Y;exact⟨by rw[CK K L,U,G,h3];rfl,C,F⟩;refine AW [.bk _,.sq _] 4 [] (As _) (λ_=>Ab C (I0 C C Jv ⟨dC,J⟩)<|A5 C (Ay Ih C C) (CR _ (s.take 1) (by simp only[List.length_take];omega) F4 dC dC) ?_);rintro _ w11 ⟨rfl,hE9⟩;replace h:=h.ext hE9;replace D:=D.ext hE9;replace F:=F.trans hE9;have sz10:=hE9.size;refine Ab C (A0 C)<|sL 49 C (λh4=>?_) (λh4=>?_);refine AP [.sq _,.bk _,.sq _] 1 [] (As _) (λ_=>BN C C C<|A5 C (Ay Ih C C) (CR _ (s) oM (F4++EE++Gq) dC dC) ?_);rintro _ w12 ⟨rfl,hE10⟩;replace h:=h.ext hE10;replace D:=D.ext hE10;replace F:=F.trans hE10;have sz11:=hE10.size;refine AP [.sq _,.bk _,.sq _] 4 [] (As _) (λ_=>sP 45 C (λh5=>?_) (λh5=>?_));refine AW [.bk _,.sq _] 6 [0,0] (kB h (As _)) (y2<|λ_=>A3 C C C Ha C D C C λw13 hb5 hC3=>?_);replace h:=h.chg hC3 oM;replace F:=F.chg hC3 oM;have sz12:=hC3.size;refine AP [.sq _,.bk _,.sq _] 5 [] (As _) (λ_=>Bv (AG C (Ae C Ha hb5 C)) ?_);have G:(!(Bm s==[]))=true:=Y;exact⟨6,0,s,by rw[CK K L,U,G,h3,h4,h5];rfl,C,F⟩;refine AW [.bk _,.sq _] 4 [] (As _) (λ_=>Ab C (I0 C C Jv ⟨dC,J⟩)<|A5 C (Ay Ih C C) (CR _ (s.take 1) (by simp only[List.length_take];omega) (EE++G7) dC dC) ?_);rintro _ w14 ⟨rfl,hE11⟩;replace h:=h.ext hE11;replace D:=D.ext hE11;replace F:=F.trans hE11;have sz13:=hE11.size;refine Ab C (A0 C)<|sL 60 C (λh6=>?_) (λh6=>?_);refine AP [.sq _,.bk _,.sq _] 1 [] (As _) (λ_=>BN C C C<|A5 C (Ay Ih C C) (CR _ (s) oM (F4++EE++Gq++G7) dC dC) ?_);rintro _ w15 ⟨rfl,hE12⟩;replace h:=h.ext hE12;replace D:=D.ext hE12;replace F:=F.trans hE12;have sz14:=hE12.size;refine AP [.sq _,.bk _,.sq _] 4 [] (As _) (λ_=>sP 56 C (λh7=>?_) (λh7=>?_));refine AW [.bk _,.sq _] 6 [0,0] (kB h (As _)) (y2<|λ_=>A3 C C C Ha C D C C λw16 hb6 hC4=>?_);replace h:=h.chg hC4 oM;replace F:=F.chg hC4 oM;have sz15:=hC4.size;refine AP [.sq _,.bk _,.sq _] 5 [] (As _) (λ_=>Bv (AG C (Ae C Ha hb6 C)) ?_);have G:(!(Bm s==[]))=true:=Y;exact⟨5,0,s,by rw[CK K L,U,G,h3,h4,h5,h6,h7];rfl,C,F⟩;refine AW [.bk _,.sq _] 7 [0,0] (kB h (As _)) (y2<|λ_=>Ab C (Ck C JO)<|C6 (BR C) (aI C ?_));have G:(!(Bm s==[]))=true:=Y;exact⟨by rw[CK K L,U,G,h3,h4,h5,h6,h7];rfl,C,F⟩;refine AP [.sq _,.bk _,.sq _] 13 [0,0] (kB h (As _)) (y2<|λ_=>Ab C (Ck C JO)<|C6 (BR C) (aI C ?_));have G:(!(Bm s==[]))=true:=Y;exact⟨by rw[CK K L,U,G,h3,h4,h5,h6];rfl,C,F⟩;refine AP [.sq _,.bk _,.sq _] 10 [] (As _) (λ_=>Ab C (I0 C C Jv ⟨dC,J⟩)<|A5 C (Ay Ih C C) (CR _ (s.take 1) (by simp only[List.length_take];omega) (EE++G7) dC dC) ?_)
 rintro _ w17 ⟨rfl,hE13⟩;replace h:=h.ext hE13;replace D:=D.ext hE13;replace F:=F.trans hE13;have sz16:=hE13.size;refine Ab C (A0 C)<|sL 60 C (λh8=>?_) (λh8=>?_);refine AP [.sq _,.bk _,.sq _] 1 [] (As _) (λ_=>BN C C C<|A5 C (Ay Ih C C) (CR _ (s) oM (F4++EE++Gq++G7) dC dC) ?_);rintro _ w18 ⟨rfl,hE14⟩;replace h:=h.ext hE14;replace D:=D.ext hE14;replace F:=F.trans hE14;have sz17:=hE14.size;refine AP [.sq _,.bk _,.sq _] 4 [] (As _) (λ_=>sP 56 C (λh9=>?_) (λh9=>?_));refine AW [.bk _,.sq _] 6 [0,0] (kB h (As _)) (y2<|λ_=>A3 C C C Ha C D C C λw19 hb7 hC5=>?_);replace h:=h.chg hC5 oM;replace F:=F.chg hC5 oM;have sz18:=hC5.size;refine AP [.sq _,.bk _,.sq _] 5 [] (As _) (λ_=>Bv (AG C (Ae C Ha hb7 C)) ?_);have G:(!(Bm s==[]))=true:=Y;exact⟨5,0,s,by rw[CK K L,U,G,h3,h4,h8,h9];rfl,C,F⟩;refine AW [.bk _,.sq _] 7 [0,0] (kB h (As _)) (y2<|λ_=>Ab C (Ck C JO)<|C6 (BR C) (aI C ?_));have G:(!(Bm s==[]))=true:=Y;exact⟨by rw[CK K L,U,G,h3,h4,h8,h9];rfl,C,F⟩;refine AP [.sq _,.bk _,.sq _] 13 [0,0] (kB h (As _)) (y2<|λ_=>Ab C (Ck C JO)<|C6 (BR C) (aI C ?_));have G:(!(Bm s==[]))=true:=Y;exact⟨by rw[CK K L,U,G,h3,h4,h8];rfl,C,F⟩;refine AP [.sq _,.bk _,.sq _] 11 [] (As _) (λ_=>Ab C (I0 C C Jv ⟨dC,J⟩)<|A5 C (Ay Ih C C) (CR _ (s.take 1) (by simp only[List.length_take];omega) F4 dC dC) ?_);rintro _ w20 ⟨rfl,hE15⟩;replace h:=h.ext hE15;replace D:=D.ext hE15;replace F:=F.trans hE15;have sz19:=hE15.size;refine Ab C (A0 C)<|sL 49 C (λW=>?_) (λW=>?_);refine AP [.sq _,.bk _,.sq _] 1 [] (As _) (λ_=>BN C C C<|A5 C (Ay Ih C C) (CR _ (s) oM (F4++EE++Gq) dC dC) ?_);rintro _ w21 ⟨rfl,hE16⟩;replace h:=h.ext hE16;replace D:=D.ext hE16;replace F:=F.trans hE16;have sz20:=hE16.size;refine AP [.sq _,.bk _,.sq _] 4 [] (As _) (λ_=>sP 45 C (λh11=>?_) (λh11=>?_));refine AW [.bk _,.sq _] 6 [0,0] (kB h (As _)) (y2<|λ_=>A3 C C C Ha C D C C λw22 hb8 hC6=>?_);replace h:=h.chg hC6 oM;replace F:=F.chg hC6 oM;have sz21:=hC6.size;refine AP [.sq _,.bk _,.sq _] 5 [] (As _) (λ_=>Bv (AG C (Ae C Ha hb8 C)) ?_);have G:(!(Bm s==[]))=false:=Y;exact⟨6,0,s,by rw[CK K L,U,G,W,h11];rfl,C,F⟩;refine AW [.bk _,.sq _] 4 [] (As _) (λ_=>Ab C (I0 C C Jv ⟨dC,J⟩)<|A5 C (Ay Ih C C) (CR _ (s.take 1) (by simp only[List.length_take];omega) (EE++G7) dC dC) ?_);rintro _ w23 ⟨rfl,hE17⟩;replace h:=h.ext hE17;replace D:=D.ext hE17;replace F:=F.trans hE17;have sz22:=hE17.size;refine Ab C (A0 C)<|sL 60 C (λh12=>?_) (λh12=>?_);refine AP [.sq _,.bk _,.sq _] 1 [] (As _) (λ_=>BN C C C<|A5 C (Ay Ih C C) (CR _ (s) oM (F4++EE++Gq++G7) dC dC) ?_);rintro _ w24 ⟨rfl,hE18⟩;replace h:=h.ext hE18;replace D:=D.ext hE18;replace F:=F.trans hE18;have sz23:=hE18.size
 refine AP [.sq _,.bk _,.sq _] 4 [] (As _) (λ_=>sP 56 C (λh13=>?_) (λh13=>?_));refine AW [.bk _,.sq _] 6 [0,0] (kB h (As _)) (y2<|λ_=>A3 C C C Ha C D C C λw25 hb9 hC7=>?_);replace h:=h.chg hC7 oM;replace F:=F.chg hC7 oM;have sz24:=hC7.size;refine AP [.sq _,.bk _,.sq _] 5 [] (As _) (λ_=>Bv (AG C (Ae C Ha hb9 C)) ?_);have G:(!(Bm s==[]))=false:=Y;exact⟨5,0,s,by rw[CK K L,U,G,W,h11,h12,h13];rfl,C,F⟩;refine AW [.bk _,.sq _] 7 [0,0] (kB h (As _)) (y2<|λ_=>Ab C (Ck C JO)<|C6 (BR C) (aI C ?_));have G:(!(Bm s==[]))=false:=Y;exact⟨by rw[CK K L,U,G,W,h11,h12,h13];rfl,C,F⟩;refine AP [.sq _,.bk _,.sq _] 13 [0,0] (kB h (As _)) (y2<|λ_=>Ab C (Ck C JO)<|C6 (BR C) (aI C ?_));have G:(!(Bm s==[]))=false:=Y;exact⟨by rw[CK K L,U,G,W,h11,h12];rfl,C,F⟩;refine AP [.sq _,.bk _,.sq _] 10 [] (As _) (λ_=>Ab C (I0 C C Jv ⟨dC,J⟩)<|A5 C (Ay Ih C C) (CR _ (s.take 1) (by simp only[List.length_take];omega) (EE++G7) dC dC) ?_);rintro _ w26 ⟨rfl,hE19⟩;replace h:=h.ext hE19;replace D:=D.ext hE19;replace F:=F.trans hE19;have sz25:=hE19.size;refine Ab C (A0 C)<|sL 60 C (λh14=>?_) (λh14=>?_);refine AP [.sq _,.bk _,.sq _] 1 [] (As _) (λ_=>BN C C C<|A5 C (Ay Ih C C) (CR _ (s) oM (F4++EE++Gq++G7) dC dC) ?_);rintro _ w27 ⟨rfl,hE20⟩;replace h:=h.ext hE20;replace D:=D.ext hE20;replace F:=F.trans hE20;have sz26:=hE20.size;refine AP [.sq _,.bk _,.sq _] 4 [] (As _) (λ_=>sP 56 C (λh15=>?_) (λh15=>?_));refine AW [.bk _,.sq _] 6 [0,0] (kB h (As _)) (y2<|λ_=>A3 C C C Ha C D C C λw28 hb10 hC8=>?_);replace h:=h.chg hC8 oM;replace F:=F.chg hC8 oM;have sz27:=hC8.size;refine AP [.sq _,.bk _,.sq _] 5 [] (As _) (λ_=>Bv (AG C (Ae C Ha hb10 C)) ?_);have G:(!(Bm s==[]))=false:=Y;exact⟨5,0,s,by rw[CK K L,U,G,W,h14,h15];rfl,C,F⟩;refine AW [.bk _,.sq _] 7 [0,0] (kB h (As _)) (y2<|λ_=>Ab C (Ck C JO)<|C6 (BR C) (aI C ?_));have G:(!(Bm s==[]))=false:=Y;exact⟨by rw[CK K L,U,G,W,h14,h15];rfl,C,F⟩;refine AP [.sq _,.bk _,.sq _] 13 [0,0] (kB h (As _)) (y2<|λ_=>Ab C (Ck C JO)<|C6 (BR C) (aI C ?_));have G:(!(Bm s==[]))=false:=Y;exact⟨by rw[CK K L,U,G,W,h14];rfl,C,F⟩
theorem Y1(hPF:yY)(w0 w:wO)(hG:Gl w0)(hX0:AY w0 w)(b:Nat)(hb0:w0.heap.size≤b)(src:lU)(i:Nat)(p:Ps)(toks:List A4)(ta:oA)(tc:Nat)(hsc:AS w b [S src,iV ((i:Nat):Int),iV p.1,iV p.2,(.slice ta toks.length tc)] 50)(D:C0 w 52 5 ta tc toks.length (F6 toks))(G:∀x,rb ta=some x→w0.heap.size≤x∧x≠b)(c:UInt8)(Z:src[i]?=some c)(hp:Pk i p)(hlen:src.length≤65536)(htl:toks.length≤i) :
  BU prog 15 #[pB b] w (λv w'=>∃(ot:List A4)(i1:Nat)(p1:Ps)(ta1:oA)(tc1:Nat),CN (src.length+1) p (src.drop i)=.ok (ot,src.drop i1,p1)∧v=.tuple #[]∧AS w' b [S src,iV ((i1:Nat):Int),iV p1.1,iV p1.2,(.slice ta1 (toks++ot).length tc1)] 50∧C0 w' 52 5 ta1 tc1 (toks++ot).length (F6 (toks++ot))∧(∀x,rb ta1=some x→w0.heap.size≤x∧x≠b)∧AY w0 w'∧i<i1∧i1≤src.length∧Pk i1 p1) (λcc w'=>∃e,CN (src.length+1) p (src.drop i)=.error e∧cc=Sn 47 e∧AY w0 w'):=by
 have hbl:=hsc.lt;have hilt:=C3 Z;have Q:∀x,rb ta=some x→x<w.heap.size:=λx hx=>D.lt hx;have L:=hX0;refine ID func15 C C C<|Cp ?_;have hr1:=hsc;refine Eg mixed (A6 w [b]) [(true,0),(true,1),(true,2),(true,3),(true,4),(true,5),(true,6),(true,7),(false,8),(false,9),(true,10)] kR kR C C λw1 hE1 hz1=>?_;have h:A6 w [b] w1:=A6.cons hr1 hE1 (A6.nil _ _);refine⟨h,?_⟩;replace hsc:=hsc.ext hE1;replace D:=D.ext hE1;replace L:=L.trans hE1;refine A1 C (λ_ W=>A0 C)<|A1 C (λ_ W=>B8 C)<|A1 C (λ_ W=>BQ C V5)<|A1 C (λ_ W=>Dr C Jh (hr1.keep W (.head _)) C)<|A1 C (λ_ W=>A0 C)<|A1 C (λ_ W=>B8 C)<|A1 C (λ_ W=>BQ C Hf)<|A1 C (λ_ W=>Am C Va (hr1.keep W (.head _)) C)<|EV<|CP C Wi λb1 w2 hb1 hE2 hs1 hz2=>?_;replace hsc:=hsc.ext hE2;replace D:=D.ext hE2;replace L:=L.trans hE2;replace h:=h.ext hE2;refine Ac (H5 h<|EV<|A3 C C C Jh C hb1 C C λw3 hb2 hC1=>?_);replace hsc:=hsc.chg hC1 oM;replace D:=C0.chg D hC1 (λe=>by have:=G _ e;have:=Q _ e;omega);replace L:=L.chg hC1 oM;replace h:=h.chg hC1 nM;have sz1:=hC1.size;refine Ac (H5 h<|A1 C (λ_ W=>Dp C)<|Ex<|KG [.sq _] 4 [] (As _) (λ_=>A5 C (Ay NY C C) (FQ _ b src i p (.slice ta toks.length tc) hsc c Z oM hp) ?_));rintro _ w4 ⟨rfl,hb3,hE3⟩;replace D:=C0.exb D hE3 (λe=>by have:=G _ e;omega);replace hb2:=hb2.exb hE3 oM;replace L:=hE3.ext L hb0;have sz2:=hE3.size;have hp1:=Pk.adv (c:=c) hp;refine AP [.sq _] 7 [] (As _) (λ_=>A5 C (Ay XG C C) (F9 _ ER _) ?_);rintro _ w5 ⟨rfl,hE4⟩;replace D:=D.ext hE4;replace hb2:=hb2.ext hE4;replace hb3:=hb3.ext hE4;replace L:=L.trans hE4;have sz3:=hE4.size;refine AP [.sq _,.bk _] 4 [] (As _) (λ_=>sP 53 C (λh1=>?_) (λh1=>?_));exact AW [.bk _] 3 [] (As _) (λ_=>G6 (DZ C)<|⟨[],i+1,adv c p,ta,tc,TW Z h1,C,by rw[List.append_nil];exact hb3,by rw[List.append_nil];exact D,G,L,oM,by have:=C3 Z;omega,hp1⟩);refine AW [.bk _] 8 [] (As _) (λ_=>sP 57 C (λh2=>?_) (λh2=>?_));refine AW [.bk _] 2 [] (As _) (λ_=>?_);refine Em (λk σ ds w'=>∃(j:Nat)(q:Ps),k=src.length-j∧ds=[]∧σ=(AH SW.e0 0 (pB b))∧i<j∧j≤src.length∧Pk j q∧GJ (adv c p) (src.drop (i+1))=GJ q (src.drop j)∧AS w' b [S src,iV ((j:Nat):Int),iV q.1,iV q.2,(.slice ta toks.length tc)] 50∧AS w' b1 [iV p.1,iV p.2] 25 ∧ C0 w' 52 5 ta tc toks.length (F6 toks)∧AY w0 w') (src.length-(i+1)) (AH SW.e0 0 (pB b)) lE ⟨i+1,adv c p,C,C,C,oM,by have:=C3 Z;omega,hp1,C,hb3,hb2,D,L⟩ ?_;rintro _ _ _ wl ⟨j,q,rfl,rfl,rfl,hij,hjl,hq,hm,F,K,D,L⟩;have szl:=L.size;have lt2:=K.lt;have lts:=F.lt;refine AW [] 2 [] (As _) (λ_=>?_);have U:=F;have hr3:=K;refine Eg mixed (A6 wl [b,b1]) [(true,0),(false,1),(true,2),(true,3),(true,4),(true,5),(true,6),(true,7),(true,8),(true,9),(true,10),(true,11),(true,12),(true,13)] kR kR C C λw6 hE5 hz3=>?_
 have h:A6 wl [b,b1] w6:=A6.cons U hE5 (A6.cons hr3 hE5 (A6.nil _ _));refine⟨h,?_⟩;replace F:=F.ext hE5;replace K:=K.ext hE5;replace D:=D.ext hE5;replace L:=L.trans hE5;refine A1 C (λ_ W=>A0 C)<|EV<|A5 C (Ay Uy C C) (I6 _ b src j q (.slice ta toks.length tc) F) ?_;rintro _ w7 ⟨rfl,hE6⟩;replace F:=F.ext hE6;replace K:=K.ext hE6;replace D:=D.ext hE6;replace L:=L.trans hE6;replace h:=h.ext hE6;have sz4:=hE6.size;refine Ac (H5 h<|A1 C (λ_ W=>A0 C)<|PR 62 C (λh3=>?_) (λh3=>?_));have hjlt:j<src.length:=by have:=dT h3;omega
 obtain⟨c1,hc1⟩:=K9 hjlt;refine CH C C C h3 (λ_ W=>A0 C)<|CH C C C h3 (λ_ W=>B8 C)<|CH C C C h3 (λ_ W=>BQ C JB)<|CH C C C h3 (λ_ W=>Am C ZF (U.keep W (.head _)) C)<|CH C C C h3 (λ_ W=>A0 C)<|CH C C C h3 (λ_ W=>B8 C)<|CH C C C h3 (λ_ W=>BQ C Hf)<|CH C C C h3 (λ_ W=>Am C Va (U.keep W (.head _)) C)<|CH C C C h3 (λ_ W=>DC (c:=c1) C C Jv oM (by rw[Int.toNat_natCast];exact hc1))<|CH C C C h3 (λ_ W=>gJ C C) ?_;refine A1 C (λ_ W=>Pw C h3 C)<|Ex<|DD<|sP 73 C (λh4=>?_) (λh4=>?_);refine AW [.sq _] 6 [] (As _) (λ_=>A5 C (Ay NY C C) (FQ _ b src j q (.slice ta toks.length tc) F c1 hc1 oM hq) ?_);rintro _ w8 ⟨rfl,hb4,hE7⟩;replace K:=K.exb hE7 oM;replace D:=C0.exb D hE7 (λe=>by have:=G _ e;omega);replace L:=hE7.ext L hb0;have sz5:=hE7.size;have hp2:=Pk.adv (c:=c1) hq;refine AP [.bk _] 2 [] (As _) (λ_=>HH (src.length-(j+1)) (AH SW.e0 0 (pB b)) (by have:=C3 hc1;omega) lE ⟨j+1,adv c1 q,C,C,C,oM,by have:=C3 hc1;omega,hp2,hm.trans (Zh hc1 h4),hb4,K,D,L⟩);exact AW [.sq _] 3 [] (As _) (λ_=>O0<|KG [.bk _,.bk _] 2 [] (As _) (λ_=>G6 (DZ C)<|⟨[],j,q,ta,tc,by rw[Q7 Z h1 h2,hm,Q0 (.inr ⟨c1,hc1,h4⟩)],C,by rw[List.append_nil];exact F,by rw[List.append_nil];exact D,G,L,hij,hjl,hq⟩));refine CF C C C h3<|CF C C C h3<|CF C C C h3<|CF C C C h3<|CF C C C h3<|CF C C C h3<|CF C C C h3<|CF C C C h3<|CF C C C h3<|CF C C C h3 ?_;exact A1 C (λ_ W=>Ov C h3 C)<|Ex<|KG [.sq _,.sq _] 4 [] (As _) (λ_=>O0<|KG [.bk _,.bk _] 2 [] (As _) (λ_=>G6 (DZ C)<|⟨[],j,q,ta,tc,by rw[Q7 Z h1 h2,hm,Q0 (.inl (by have:=dF h3;omega))],C,by rw[List.append_nil];exact F,by rw[List.append_nil];exact D,G,L,hij,hjl,hq⟩));refine AW [.bk _] 8 [] (As _) (λ_=>sP 76 C (λh5=>?_) (λh5=>?_));refine Gb C C ?_;have hr4:=hb2;refine Eu mixed (A6 w5 [b1]) (rd [0,1,2,3,5,6] (.br 4 (.br 7 (.br 8 (.rd 9 (.rd 10 (.br 11 .fin .fin))) .fin) .fin) (.br 7 (.br 4 (.br 8 (.rd 9 (.rd 10 (.br 11 .fin .fin))) .fin) .fin) .fin))) kR kR kR λw9 hE8 hz4=>?_;have h:A6 w5 [b1] w9:=A6.cons hr4 hE8 (A6.nil _ _);refine⟨h,?_⟩;replace D:=D.ext hE8;replace hb2:=hb2.ext hE8;replace hb3:=hb3.ext hE8;replace L:=L.trans hE8;refine Ax C C (λ_ W=>A0 C)<|Ax C C (λ_ W=>A0 C)<|Ax C C (λ_ W=>B8 C)<|Ax C C (λ_ W=>BQ C Dl)<|Ax C C (λ_ W=>Dr C Jh (hr4.keep W (.head _)) C)<|Ax C C (λ_ W=>DO C aD Gm C)<|An C ?_ ?_;refine Ab C (Am C D8 hb3 C)<|Ac (Ap h<|An C ?_ Ag);refine Cv C C H4 Gm C C C C C λb2 w10 hb5 hE9 hs2 hz5=>?_;replace D:=D.ext hE9;replace hb2:=hb2.ext hE9;replace hb3:=hb3.ext hE9;replace L:=L.trans hE9;replace h:=h.ext hE9;refine Ac (Ap h<|An C ?_ Ag);refine Bi C Jg C C C C D hb5 C C oM oM λY tc2 w11 U J=>?_
 have O:∀x,rb Y=some x→w0.heap.size≤x∧x≠b:=Co J G oM;replace hb3:=hb3.grow J (λe=>by have:=G _ e.symm;have:=Q _ e.symm;omega);replace L:=L.grow J (λx hx=>(G x hx).1);replace h:=h.grow J (by simp only[List.mem_cons,List.not_mem_nil,or_false];intro c Z e;have:=G _ e.symm;have:=Q _ e.symm;omega);have sz6:=J.size;refine Ac (Ap h<|Ax C C (λ_ W=>B8 C)<|Ax C C (λ_ W=>BQ C Dl)<|An C ?_ Ag);refine A3 C C C D8 C hb3 C C λw12 hb6 hC2=>?_;replace U:=C0.chg U hC2 (λe=>by have:=O _ e;omega);replace L:=L.chg hC2 oM;replace h:=h.chg hC2 nM;have sz7:=hC2.size;exact Ac (Ap h<|BC<|Ec<|G6 (DZ C)<|⟨[⟨0,p.1,p.2,0,[]⟩],i+1,adv c p,Y,tc2,S1 Z h1 h2 h5,C,by rw[List.length_append];exact hb6,by rw[List.length_append,BL];exact U,O,L,oM,by first|omega|(have:=C3 Z;omega),hp1⟩);refine An C ?_ ?_;refine Cv C C H4 Gm C C C C C λb3 w13 hb7 hE10 hs3 hz6=>?_;replace D:=D.ext hE10;replace hb2:=hb2.ext hE10;replace hb3:=hb3.ext hE10;replace L:=L.trans hE10;replace h:=h.ext hE10;refine Ac (Ap h<|An C ?_ Ag);refine Ab C (Am C D8 hb3 C)<|Ac (Ap h<|An C ?_ Ag);refine Bi C Jg C C C C D hb7 C C oM oM λY tc2 w14 U J=>?_;have O:∀x,rb Y=some x→w0.heap.size≤x∧x≠b:=Co J G oM;replace hb3:=hb3.grow J (λe=>by have:=G _ e.symm;have:=Q _ e.symm;omega);replace L:=L.grow J (λx hx=>(G x hx).1);replace h:=h.grow J (by simp only[List.mem_cons,List.not_mem_nil,or_false];intro c Z e;have:=G _ e.symm;have:=Q _ e.symm;omega);have sz8:=J.size;refine Ac (Ap h<|Ax C C (λ_ W=>B8 C)<|Ax C C (λ_ W=>BQ C Dl)<|An C ?_ Ag);refine A3 C C C D8 C hb3 C C λw15 hb8 hC3=>?_;replace U:=C0.chg U hC3 (λe=>by have:=O _ e;omega);replace L:=L.chg hC3 oM;replace h:=h.chg hC3 nM;have sz9:=hC3.size;exact Ac (Ap h<|BC<|Ec<|G6 (DZ C)<|⟨[⟨0,p.1,p.2,0,[]⟩],i+1,adv c p,Y,tc2,S1 Z h1 h2 h5,C,by rw[List.length_append];exact hb8,by rw[List.length_append,BL];exact U,O,L,oM,by first|omega|(have:=C3 Z;omega),hp1⟩);exact Ag;refine AW [.bk _] 8 [] (As _) (λ_=>sP 90 C (λh6=>?_) (λh6=>?_));refine Gb C C ?_;have hr5:=hb2;refine Eu mixed (A6 w5 [b1]) (rd [0,1,2,3,5,6] (.br 4 (.br 7 (.br 8 (.rd 9 (.rd 10 (.br 11 .fin .fin))) .fin) .fin) (.br 7 (.br 4 (.br 8 (.rd 9 (.rd 10 (.br 11 .fin .fin))) .fin) .fin) .fin))) kR kR kR λw16 hE11 hz7=>?_;have h:A6 w5 [b1] w16:=A6.cons hr5 hE11 (A6.nil _ _);refine⟨h,?_⟩;replace D:=D.ext hE11;replace hb2:=hb2.ext hE11;replace hb3:=hb3.ext hE11;replace L:=L.trans hE11;refine Ax C C (λ_ W=>A0 C)<|Ax C C (λ_ W=>A0 C)<|Ax C C (λ_ W=>B8 C)<|Ax C C (λ_ W=>BQ C Dl)<|Ax C C (λ_ W=>Dr C Jh (hr5.keep W (.head _)) C)<|Ax C C (λ_ W=>DO C aD Gm C)<|An C ?_ ?_;refine Ab C (Am C D8 hb3 C)<|Ac (Ap h<|An C ?_ Ag)
 refine Cv C C H4 Gm C C C C C λb4 w17 hb9 hE12 hs4 hz8=>?_;replace D:=D.ext hE12;replace hb2:=hb2.ext hE12;replace hb3:=hb3.ext hE12;replace L:=L.trans hE12;replace h:=h.ext hE12;refine Ac (Ap h<|An C ?_ Ag);refine Bi C Jg C C C C D hb9 C C oM oM λY tc2 w18 U J=>?_;have O:∀x,rb Y=some x→w0.heap.size≤x∧x≠b:=Co J G oM;replace hb3:=hb3.grow J (λe=>by have:=G _ e.symm;have:=Q _ e.symm;omega);replace L:=L.grow J (λx hx=>(G x hx).1);replace h:=h.grow J (by simp only[List.mem_cons,List.not_mem_nil,or_false];intro c Z e;have:=G _ e.symm;have:=Q _ e.symm;omega);have sz10:=J.size;refine Ac (Ap h<|Ax C C (λ_ W=>B8 C)<|Ax C C (λ_ W=>BQ C Dl)<|An C ?_ Ag);refine A3 C C C D8 C hb3 C C λw19 hb10 hC4=>?_;replace U:=C0.chg U hC4 (λe=>by have:=O _ e;omega);replace L:=L.chg hC4 oM;replace h:=h.chg hC4 nM;have sz11:=hC4.size;exact Ac (Ap h<|BC<|Ec<|G6 (DZ C)<|⟨[⟨1,p.1,p.2,0,[]⟩],i+1,adv c p,Y,tc2,TJ Z h1 h2 h5 h6,C,by rw[List.length_append];exact hb10,by rw[List.length_append,BL];exact U,O,L,oM,by first|omega|(have:=C3 Z;omega),hp1⟩);refine An C ?_ ?_;refine Cv C C H4 Gm C C C C C λb5 w20 hb11 hE13 hs5 hz9=>?_;replace D:=D.ext hE13;replace hb2:=hb2.ext hE13;replace hb3:=hb3.ext hE13;replace L:=L.trans hE13;replace h:=h.ext hE13;refine Ac (Ap h<|An C ?_ Ag);refine Ab C (Am C D8 hb3 C)<|Ac (Ap h<|An C ?_ Ag);refine Bi C Jg C C C C D hb11 C C oM oM λY tc2 w21 U J=>?_;have O:∀x,rb Y=some x→w0.heap.size≤x∧x≠b:=Co J G oM;replace hb3:=hb3.grow J (λe=>by have:=G _ e.symm;have:=Q _ e.symm;omega);replace L:=L.grow J (λx hx=>(G x hx).1);replace h:=h.grow J (by simp only[List.mem_cons,List.not_mem_nil,or_false];intro c Z e;have:=G _ e.symm;have:=Q _ e.symm;omega);have sz12:=J.size;refine Ac (Ap h<|Ax C C (λ_ W=>B8 C)<|Ax C C (λ_ W=>BQ C Dl)<|An C ?_ Ag);refine A3 C C C D8 C hb3 C C λw22 hb12 hC5=>?_;replace U:=C0.chg U hC5 (λe=>by have:=O _ e;omega);replace L:=L.chg hC5 oM;replace h:=h.chg hC5 nM;have sz13:=hC5.size;exact Ac (Ap h<|BC<|Ec<|G6 (DZ C)<|⟨[⟨1,p.1,p.2,0,[]⟩],i+1,adv c p,Y,tc2,TJ Z h1 h2 h5 h6,C,by rw[List.length_append];exact hb12,by rw[List.length_append,BL];exact U,O,L,oM,by first|omega|(have:=C3 Z;omega),hp1⟩);exact Ag;refine AW [.bk _] 8 [] (As _) (λ_=>sP 104 C (λh7=>?_) (λh7=>?_));refine Gb C C ?_;have hr6:=hb2;refine Eu mixed (A6 w5 [b1]) (rd [0,1,2,3,5,6] (.br 4 (.br 7 (.br 8 (.br 9 (.rd 10 (.rd 11 (.br 12 .fin .fin))) .fin) .fin) .fin) (.br 7 (.br 4 (.br 8 (.br 9 (.rd 10 (.rd 11 (.br 12 .fin .fin))) .fin) .fin) (.br 8 (.br 4 (.br 9 (.rd 10 (.rd 11 (.br 12 .fin .fin))) .fin) .fin) .fin)) .fin))) kR kR kR λw23 hE14 hz10=>?_;have h:A6 w5 [b1] w23:=A6.cons hr6 hE14 (A6.nil _ _)
 refine⟨h,?_⟩;replace D:=D.ext hE14;replace hb2:=hb2.ext hE14;replace hb3:=hb3.ext hE14;replace L:=L.trans hE14;refine Ax C C (λ_ W=>A0 C)<|Ax C C (λ_ W=>A0 C)<|Ax C C (λ_ W=>B8 C)<|Ax C C (λ_ W=>BQ C Dl)<|Ax C C (λ_ W=>A0 C)<|Ax C C (λ_ W=>Dr C Jh (hr6.keep W (.head _)) C)<|An C ?_ ?_;refine Ab C (Am C D8 hb3 C)<|Ac (Ap h<|An C ?_ Ag);refine Cw C (Ay oI C C) (Ui _ b src (i+1) (adv c p) (.slice ta toks.length tc) hb3 p (by have:=C3 Z;omega) oM hp1) ?_ (λcc wp hc1=>aI C (let ⟨e,he,hcc,hE⟩:=hc1;⟨e,by rw[Iw Z h1 h2 h5 h6 h7,he],hcc,hE.ext L hb0⟩));rintro _ w24 ⟨tx,i1,p1,hstr,rfl,hb13,hE15,hi1,hi2,hp1⟩;replace D:=C0.exb D hE15 (λe=>by have:=G _ e;omega);replace hb2:=hb2.exb hE15 oM;replace L:=hE15.ext L hb0;have sz14:=hE15.size;replace h:=h.exb hE15 nM;refine Ac (Ap h<|An C ?_ Ag);refine Cv C C H4 Gm C C C C C λb6 w25 hb14 hE16 hs6 hz11=>?_;replace D:=D.ext hE16;replace hb2:=hb2.ext hE16;replace hb13:=hb13.ext hE16;replace L:=L.trans hE16;replace h:=h.ext hE16;refine Ac (Ap h<|An C ?_ Ag);refine Bi C Jg C C C C D hb14 C C oM oM λY tc2 w26 U J=>?_;have O:∀x,rb Y=some x→w0.heap.size≤x∧x≠b:=Co J G oM;replace hb13:=hb13.grow J (λe=>by have:=G _ e.symm;have:=Q _ e.symm;omega);replace L:=L.grow J (λx hx=>(G x hx).1);replace h:=h.grow J (by simp only[List.mem_cons,List.not_mem_nil,or_false];intro c Z e;have:=G _ e.symm;have:=Q _ e.symm;omega);have sz15:=J.size;refine Ac (Ap h<|Ax C C (λ_ W=>B8 C)<|Ax C C (λ_ W=>BQ C Dl)<|An C ?_ Ag);refine A3 C C C D8 C hb13 C C λw27 hb15 hC6=>?_;replace U:=C0.chg U hC6 (λe=>by have:=O _ e;omega);replace L:=L.chg hC6 oM;replace h:=h.chg hC6 nM;have sz16:=hC6.size;exact Ac (Ap h<|BC<|Ec<|G6 (DZ C)<|⟨[⟨4,p.1,p.2,0,tx⟩],i1,p1,Y,tc2,by rw[Iw Z h1 h2 h5 h6 h7,hstr],C,by rw[List.length_append];exact hb15,by rw[List.length_append,BL];exact U,O,L,oM,by first|omega|(have:=C3 Z;omega),hp1⟩);refine An C ?_ ?_;refine Cw C (Ay oI C C) (Ui _ b src (i+1) (adv c p) (.slice ta toks.length tc) hb3 p (by have:=C3 Z;omega) oM hp1) ?_ (λcc wp hc1=>aI C (let ⟨e,he,hcc,hE⟩:=hc1;⟨e,by rw[Iw Z h1 h2 h5 h6 h7,he],hcc,hE.ext L hb0⟩));rintro _ w28 ⟨tx,i1,p1,hstr,rfl,hb16,hE17,hi1,hi2,hp1⟩;replace D:=C0.exb D hE17 (λe=>by have:=G _ e;omega);replace hb2:=hb2.exb hE17 oM;replace L:=hE17.ext L hb0;have sz17:=hE17.size;replace h:=h.exb hE17 nM;refine Ac (Ap h<|An C ?_ ?_);refine Ab C (Am C D8 hb16 C)<|Ac (Ap h<|An C ?_ Ag);refine Cv C C H4 Gm C C C C C λb7 w29 hb17 hE18 hs7 hz12=>?_;replace D:=D.ext hE18;replace hb2:=hb2.ext hE18;replace hb16:=hb16.ext hE18;replace L:=L.trans hE18;replace h:=h.ext hE18;refine Ac (Ap h<|An C ?_ Ag)
 refine Bi C Jg C C C C D hb17 C C oM oM λY tc2 w30 U J=>?_;have O:∀x,rb Y=some x→w0.heap.size≤x∧x≠b:=Co J G oM;replace hb16:=hb16.grow J (λe=>by have:=G _ e.symm;have:=Q _ e.symm;omega);replace L:=L.grow J (λx hx=>(G x hx).1);replace h:=h.grow J (by simp only[List.mem_cons,List.not_mem_nil,or_false];intro c Z e;have:=G _ e.symm;have:=Q _ e.symm;omega);have sz18:=J.size;refine Ac (Ap h<|Ax C C (λ_ W=>B8 C)<|Ax C C (λ_ W=>BQ C Dl)<|An C ?_ Ag);refine A3 C C C D8 C hb16 C C λw31 hb18 hC7=>?_;replace U:=C0.chg U hC7 (λe=>by have:=O _ e;omega);replace L:=L.chg hC7 oM;replace h:=h.chg hC7 nM;have sz19:=hC7.size;exact Ac (Ap h<|BC<|Ec<|G6 (DZ C)<|⟨[⟨4,p.1,p.2,0,tx⟩],i1,p1,Y,tc2,by rw[Iw Z h1 h2 h5 h6 h7,hstr],C,by rw[List.length_append];exact hb18,by rw[List.length_append,BL];exact U,O,L,oM,by first|omega|(have:=C3 Z;omega),hp1⟩);refine An C ?_ ?_;refine Cv C C H4 Gm C C C C C λb8 w32 hb19 hE19 hs8 hz13=>?_;replace D:=D.ext hE19;replace hb2:=hb2.ext hE19;replace hb16:=hb16.ext hE19;replace L:=L.trans hE19;replace h:=h.ext hE19;refine Ac (Ap h<|An C ?_ Ag);refine Ab C (Am C D8 hb16 C)<|Ac (Ap h<|An C ?_ Ag);refine Bi C Jg C C C C D hb19 C C oM oM λY tc2 w33 U J=>?_;have O:∀x,rb Y=some x→w0.heap.size≤x∧x≠b:=Co J G oM;replace hb16:=hb16.grow J (λe=>by have:=G _ e.symm;have:=Q _ e.symm;omega);replace L:=L.grow J (λx hx=>(G x hx).1);replace h:=h.grow J (by simp only[List.mem_cons,List.not_mem_nil,or_false];intro c Z e;have:=G _ e.symm;have:=Q _ e.symm;omega);have sz20:=J.size;refine Ac (Ap h<|Ax C C (λ_ W=>B8 C)<|Ax C C (λ_ W=>BQ C Dl)<|An C ?_ Ag);refine A3 C C C D8 C hb16 C C λw34 hb20 hC8=>?_;replace U:=C0.chg U hC8 (λe=>by have:=O _ e;omega);replace L:=L.chg hC8 oM;replace h:=h.chg hC8 nM;have sz21:=hC8.size;exact Ac (Ap h<|BC<|Ec<|G6 (DZ C)<|⟨[⟨4,p.1,p.2,0,tx⟩],i1,p1,Y,tc2,by rw[Iw Z h1 h2 h5 h6 h7,hstr],C,by rw[List.length_append];exact hb20,by rw[List.length_append,BL];exact U,O,L,oM,by first|omega|(have:=C3 Z;omega),hp1⟩);exact Ag;exact Ag;refine Ko C C<|RH (E3 0 (pB b) 2 (pB b1) 3 (iV (i:Int))) (λw'=>∃(j:Nat)(q:Ps),i<j∧j≤src.length∧Pk j q∧Cr (adv c p) (src.drop (i+1))=(Fl src (i+1) j,src.drop j,q)∧AS w' b [S src,iV ((j:Nat):Int),iV q.1,iV q.2,(.slice ta toks.length tc)] 50∧AS w' b1 [iV p.1,iV p.2] 25 ∧ C0 w' 52 5 ta tc toks.length (F6 toks)∧AY w0 w') ?_ ?_;refine Ew ?_
 refine Em (λk σ ds w'=>∃(j:Nat)(q:Ps),k=src.length-j∧ds=[]∧σ=(E3 0 (pB b) 2 (pB b1) 3 (iV (i:Int)))∧i<j∧j≤src.length∧Pk j q∧Cr (adv c p) (src.drop (i+1))=(Fl src (i+1) j++(Cr q (src.drop j)).1,(Cr q (src.drop j)).2)∧AS w' b [S src,iV ((j:Nat):Int),iV q.1,iV q.2,(.slice ta toks.length tc)] 50∧AS w' b1 [iV p.1,iV p.2] 25 ∧ C0 w' 52 5 ta tc toks.length (F6 toks)∧AY w0 w') (src.length-(i+1)) (E3 0 (pB b) 2 (pB b1) 3 (iV (i:Int))) lE ⟨i+1,adv c p,C,C,C,oM,by have:=C3 Z;omega,hp1,by rw[WE];rfl,hb3,hb2,D,L⟩ ?_;rintro _ _ _ wl ⟨j,q,rfl,rfl,rfl,hij,hjl,hq,hm,F,K,D,L⟩;have szl:=L.size;have lt2:=K.lt;have lts:=F.lt;refine AW [] 2 [] (As _) (λ_=>?_);have hr7:=F;have hr8:=K;refine Eg mixed (A6 wl [b,b1]) [(true,0),(false,1),(true,2),(true,3),(true,4),(true,5),(true,6),(true,7),(true,8),(true,9),(true,10),(true,11),(false,12),(true,13),(true,14)] kR kR C C λw35 hE20 hz14=>?_;have h:A6 wl [b,b1] w35:=A6.cons hr7 hE20 (A6.cons hr8 hE20 (A6.nil _ _));refine⟨h,?_⟩;replace F:=F.ext hE20;replace K:=K.ext hE20;replace D:=D.ext hE20;replace L:=L.trans hE20;refine A1 C (λ_ W=>A0 C)<|EV<|A5 C (Ay Uy C C) (I6 _ b src j q (.slice ta toks.length tc) F) ?_;rintro _ w36 ⟨rfl,hE21⟩;replace F:=F.ext hE21;replace K:=K.ext hE21;replace D:=D.ext hE21;replace L:=L.trans hE21;replace h:=h.ext hE21;have sz22:=hE21.size;refine Ac (H5 h<|A1 C (λ_ W=>A0 C)<|PR 17 C (λh8=>?_) (λh8=>?_));have hjlt:j<src.length:=by have:=dT h8;omega
 obtain⟨c1,hc1⟩:=K9 hjlt;refine CH C C C h8 (λ_ W=>A0 C)<|CH C C C h8 (λ_ W=>B8 C)<|CH C C C h8 (λ_ W=>BQ C JB)<|CH C C C h8 (λ_ W=>Am C ZF (hr7.keep W (.head _)) C)<|CH C C C h8 (λ_ W=>A0 C)<|CH C C C h8 (λ_ W=>B8 C)<|CH C C C h8 (λ_ W=>BQ C Hf)<|CH C C C h8 (λ_ W=>Am C Va (hr7.keep W (.head _)) C)<|CH C C C h8 (λ_ W=>DC (c:=c1) C C Jv oM (by rw[Int.toNat_natCast];exact hc1))<|EV ?_;refine BN C C h8<|A5 C (Ay XG C C) (F9 _ KA _) ?_;rintro _ w37 ⟨rfl,hE22⟩;replace F:=F.ext hE22;replace K:=K.ext hE22;replace D:=D.ext hE22;replace L:=L.trans hE22;replace h:=h.ext hE22;have sz23:=hE22.size;refine Ac (H5 h<|CH C C C h8 (λ_ W=>Wa C C)<|A1 C (λ_ W=>Pw C h8 C)<|Ex<|DD<|sP 29 C (λh9=>?_) (λh9=>?_));refine AW [.sq _] 6 [] (As _) (λ_=>A5 C (Ay NY C C) (FQ _ b src j q (.slice ta toks.length tc) F c1 hc1 oM hq) ?_);rintro _ w38 ⟨rfl,hb21,hE23⟩;replace K:=K.exb hE23 oM;replace D:=C0.exb D hE23 (λe=>by have:=G _ e;omega);replace L:=hE23.ext L hb0;have sz24:=hE23.size;have hp3:=Pk.adv (c:=c1) hq;refine AP [.bk _] 2 [] (As _) (λ_=>HH (src.length-(j+1)) (E3 0 (pB b) 2 (pB b1) 3 (iV (i:Int))) (by have:=C3 hc1;omega) lE ⟨j+1,adv c1 q,C,C,C,oM,by have:=C3 hc1;omega,hp3,by rw[hm,VL hc1 h9,UZ (by omega) hc1,List.append_assoc];rfl,hb21,K,D,L⟩);exact AW [.sq _] 3 [] (As _) (λ_=>O0<|PE<|Qw lE ⟨j,q,hij,hjl,hq,by rw[hm,Pd (p:=q) (src:=src) (j:=j) (.inr ⟨c1,hc1,h9⟩),List.append_nil],F,K,D,L⟩);refine CF C C C h8<|CF C C C h8<|CF C C C h8<|CF C C C h8<|CF C C C h8<|CF C C C h8<|CF C C C h8<|CF C C C h8<|CF C C C h8<|EV ?_;exact mT C C C h8<|Ac (H5 h<|CF C C C h8<|A1 C (λ_ W=>Ov C h8 C)<|Ex<|KG [.sq _,.sq _] 4 [] (As _) (λ_=>O0<|PE<|Qw lE ⟨j,q,hij,hjl,hq,by rw[hm,Pd (p:=q) (src:=src) (j:=j) (.inl (by have:=dF h8;omega)),List.append_nil],F,K,D,L⟩));rintro wl ⟨j,q,hij,hjl,hq,hm,F,K,D,L⟩;have szl:=L.size;have lt2:=K.lt;have lts:=F.lt;have hr9:=K
 refine Eu mixed (A6 wl [b1]) (rd [0,1,2,3,5,6,7,9,10,11,12,15] (.br 4 (.br 8 (.br 13 (.rd 14 (.br 16 (.br 17 (.br 18 (.rd 19 (.rd 20 (.br 21 .fin .fin))) .fin) .fin) .fin)) .fin) (.br 13 (.br 8 (.rd 14 (.br 16 (.br 17 (.br 18 (.rd 19 (.rd 20 (.br 21 .fin .fin))) .fin) .fin) .fin)) .fin) .fin)) (.br 8 (.br 4 (.br 13 (.rd 14 (.br 16 (.br 17 (.br 18 (.rd 19 (.rd 20 (.br 21 .fin .fin))) .fin) .fin) .fin)) .fin) (.br 13 (.rd 14 (.br 4 (.br 16 (.br 17 (.br 18 (.rd 19 (.rd 20 (.br 21 .fin .fin))) .fin) .fin) .fin) (.br 16 (.br 4 (.br 17 (.br 18 (.rd 19 (.rd 20 (.br 21 .fin .fin))) .fin) .fin) (.br 17 (.br 4 (.br 18 (.rd 19 (.rd 20 (.br 21 .fin .fin))) .fin) .fin) .fin)) .fin))) .fin)) (.br 13 (.br 4 (.br 8 (.rd 14 (.br 16 (.br 17 (.br 18 (.rd 19 (.rd 20 (.br 21 .fin .fin))) .fin) .fin) .fin)) .fin) (.br 8 (.rd 14 (.br 4 (.br 16 (.br 17 (.br 18 (.rd 19 (.rd 20 (.br 21 .fin .fin))) .fin) .fin) .fin) (.br 16 (.br 4 (.br 17 (.br 18 (.rd 19 (.rd 20 (.br 21 .fin .fin))) .fin) .fin) (.br 17 (.br 4 (.br 18 (.rd 19 (.rd 20 (.br 21 .fin .fin))) .fin) .fin) .fin)) .fin))) .fin)) .fin)))) kR kR kR λw39 hE24 hz15=>?_;have h:A6 wl [b1] w39:=A6.cons hr9 hE24 (A6.nil _ _);refine⟨h,?_⟩;replace F:=F.ext hE24;replace K:=K.ext hE24;replace D:=D.ext hE24;replace L:=L.trans hE24;refine Ax C C (λ_ W=>A0 C)<|Ax C C (λ_ W=>A0 C)<|Ax C C (λ_ W=>B8 C)<|Ax C C (λ_ W=>BQ C Dl)<|Ax C C (λ_ W=>A0 C)<|Ax C C (λ_ W=>B8 C)<|Ax C C (λ_ W=>BQ C JB)<|Ax C C (λ_ W=>A0 C)<|Ax C C (λ_ W=>A0 C)<|Ax C C (λ_ W=>B8 C) ?_;refine Ax C C (λ_ W=>BQ C Hf)<|Ax C C (λ_ W=>Dr C Jh (hr9.keep W (.head _)) C)<|An C ?_ ?_;refine Ab C (Am C D8 F C)<|Ac (Ap h<|An C ?_ ?_);refine Ab C (Am C ZF F C)<|Ac (Ap h<|An C ?_ Ag);refine Ab C (Am C Va F C)<|Ac (Ap h<|Ax C C (λ_ W=>MK C C C Jv ⟨oM,oM,oM⟩)<|An C ?_ Ag);refine Cw C (Ay Nc C C) (Ft hPF _ (hG.ext L) (Fl src i j) (by have:=Fi src i j;omega) (by rw[AV hij Z];simp) p) ?_ (λcc wp hc1=>aI C (let ⟨he,hcc,hE⟩:=hc1;⟨p,by rw[BT Z h1 h2 h5 h6 h7,hm];simp only[];rw[← AV hij Z,he],hcc,L.trans hE⟩));rintro _ w40 ⟨wk,wn,wt,hw,rfl,hE25⟩;replace F:=F.ext hE25;replace K:=K.ext hE25;replace D:=D.ext hE25;replace L:=L.trans hE25;replace h:=h.ext hE25;have sz25:=hE25.size;have hst2:CN (src.length+1) p (src.drop i)=.ok ([⟨wk,p.1,p.2,wn,wt⟩],src.drop j,q):=by rw[BT Z h1 h2 h5 h6 h7,hm];simp only[];rw[← AV hij Z,hw]
 refine Ac (Ap h<|An C ?_ Ag);refine Cv C C H4 Gm C C C C C λb9 w41 hb22 hE26 hs9 hz16=>?_;replace F:=F.ext hE26;replace K:=K.ext hE26;replace D:=D.ext hE26;replace L:=L.trans hE26;replace h:=h.ext hE26;refine Ac (Ap h<|An C ?_ Ag);refine Bi C Jg C C C C D hb22 C C oM oM λY tc2 w42 U J=>?_;have O:∀x,rb Y=some x→w0.heap.size≤x∧x≠b:=Co J G oM;replace F:=F.grow J (λe=>by have:=G _ e.symm;have:=Q _ e.symm;omega);replace K:=K.grow J (λe=>by have:=G _ e.symm;have:=Q _ e.symm;omega);replace L:=L.grow J (λx hx=>(G x hx).1);replace h:=h.grow J (by simp only[List.mem_cons,List.not_mem_nil,or_false];intro c Z e;have:=G _ e.symm;have:=Q _ e.symm;omega);have sz26:=J.size;refine Ac (Ap h<|Ax C C (λ_ W=>B8 C)<|Ax C C (λ_ W=>BQ C Dl)<|An C ?_ Ag);refine A3 C C C D8 C F C C λw43 hb23 hC9=>?_;replace K:=K.chg hC9 oM;replace U:=C0.chg U hC9 (λe=>by have:=O _ e;omega);replace L:=L.chg hC9 oM;replace h:=h.chg hC9 nM;have sz27:=hC9.size;exact Ac (Ap h<|BC<|Ec<|G6 (DZ C)<|⟨[⟨wk,p.1,p.2,wn,wt⟩],j,q,Y,tc2,hst2,C,by rw[List.length_append];exact hb23,by rw[List.length_append,BL];exact U,O,L,oM,by first|omega|(have:=C3 Z;omega),hq⟩);refine An C ?_ ?_;refine Ab C (Am C Va F C)<|Ac (Ap h<|An C ?_ Ag);refine Ab C (Am C ZF F C)<|Ac (Ap h<|Ax C C (λ_ W=>MK C C C Jv ⟨oM,oM,oM⟩)<|An C ?_ Ag);refine Cw C (Ay Nc C C) (Ft hPF _ (hG.ext L) (Fl src i j) (by have:=Fi src i j;omega) (by rw[AV hij Z];simp) p) ?_ (λcc wp hc1=>aI C (let ⟨he,hcc,hE⟩:=hc1;⟨p,by rw[BT Z h1 h2 h5 h6 h7,hm];simp only[];rw[← AV hij Z,he],hcc,L.trans hE⟩));rintro _ w44 ⟨wk,wn,wt,hw,rfl,hE27⟩;replace F:=F.ext hE27;replace K:=K.ext hE27;replace D:=D.ext hE27;replace L:=L.trans hE27;replace h:=h.ext hE27;have sz28:=hE27.size;have hst2:CN (src.length+1) p (src.drop i)=.ok ([⟨wk,p.1,p.2,wn,wt⟩],src.drop j,q):=by rw[BT Z h1 h2 h5 h6 h7,hm];simp only[];rw[← AV hij Z,hw]
 refine Ac (Ap h<|An C ?_ Ag);refine Cv C C H4 Gm C C C C C λb10 w45 hb24 hE28 hs10 hz17=>?_;replace F:=F.ext hE28;replace K:=K.ext hE28;replace D:=D.ext hE28;replace L:=L.trans hE28;replace h:=h.ext hE28;refine Ac (Ap h<|An C ?_ Ag);refine Bi C Jg C C C C D hb24 C C oM oM λY tc2 w46 U J=>?_;have O:∀x,rb Y=some x→w0.heap.size≤x∧x≠b:=Co J G oM;replace F:=F.grow J (λe=>by have:=G _ e.symm;have:=Q _ e.symm;omega);replace K:=K.grow J (λe=>by have:=G _ e.symm;have:=Q _ e.symm;omega);replace L:=L.grow J (λx hx=>(G x hx).1);replace h:=h.grow J (by simp only[List.mem_cons,List.not_mem_nil,or_false];intro c Z e;have:=G _ e.symm;have:=Q _ e.symm;omega);have sz29:=J.size;refine Ac (Ap h<|Ax C C (λ_ W=>B8 C)<|Ax C C (λ_ W=>BQ C Dl)<|An C ?_ Ag);refine A3 C C C D8 C F C C λw47 hb25 hC10=>?_;replace K:=K.chg hC10 oM;replace U:=C0.chg U hC10 (λe=>by have:=O _ e;omega);replace L:=L.chg hC10 oM;replace h:=h.chg hC10 nM;have sz30:=hC10.size;exact Ac (Ap h<|BC<|Ec<|G6 (DZ C)<|⟨[⟨wk,p.1,p.2,wn,wt⟩],j,q,Y,tc2,hst2,C,by rw[List.length_append];exact hb25,by rw[List.length_append,BL];exact U,O,L,oM,by first|omega|(have:=C3 Z;omega),hq⟩);exact Ag;refine An C ?_ ?_;refine Ab C (Am C ZF F C)<|Ac (Ap h<|An C ?_ ?_);refine Ab C (Am C D8 F C)<|Ac (Ap h<|An C ?_ Ag);refine Ab C (Am C Va F C)<|Ac (Ap h<|Ax C C (λ_ W=>MK C C C Jv ⟨oM,oM,oM⟩)<|An C ?_ Ag);refine Cw C (Ay Nc C C) (Ft hPF _ (hG.ext L) (Fl src i j) (by have:=Fi src i j;omega) (by rw[AV hij Z];simp) p) ?_ (λcc wp hc1=>aI C (let ⟨he,hcc,hE⟩:=hc1;⟨p,by rw[BT Z h1 h2 h5 h6 h7,hm];simp only[];rw[← AV hij Z,he],hcc,L.trans hE⟩));rintro _ w48 ⟨wk,wn,wt,hw,rfl,hE29⟩;replace F:=F.ext hE29;replace K:=K.ext hE29;replace D:=D.ext hE29;replace L:=L.trans hE29;replace h:=h.ext hE29;have sz31:=hE29.size;have hst2:CN (src.length+1) p (src.drop i)=.ok ([⟨wk,p.1,p.2,wn,wt⟩],src.drop j,q):=by rw[BT Z h1 h2 h5 h6 h7,hm];simp only[];rw[← AV hij Z,hw]
 refine Ac (Ap h<|An C ?_ Ag);refine Cv C C H4 Gm C C C C C λb11 w49 hb26 hE30 hs11 hz18=>?_;replace F:=F.ext hE30;replace K:=K.ext hE30;replace D:=D.ext hE30;replace L:=L.trans hE30;replace h:=h.ext hE30;refine Ac (Ap h<|An C ?_ Ag);refine Bi C Jg C C C C D hb26 C C oM oM λY tc2 w50 U J=>?_;have O:∀x,rb Y=some x→w0.heap.size≤x∧x≠b:=Co J G oM;replace F:=F.grow J (λe=>by have:=G _ e.symm;have:=Q _ e.symm;omega);replace K:=K.grow J (λe=>by have:=G _ e.symm;have:=Q _ e.symm;omega);replace L:=L.grow J (λx hx=>(G x hx).1);replace h:=h.grow J (by simp only[List.mem_cons,List.not_mem_nil,or_false];intro c Z e;have:=G _ e.symm;have:=Q _ e.symm;omega);have sz32:=J.size;refine Ac (Ap h<|Ax C C (λ_ W=>B8 C)<|Ax C C (λ_ W=>BQ C Dl)<|An C ?_ Ag);refine A3 C C C D8 C F C C λw51 hb27 hC11=>?_;replace K:=K.chg hC11 oM;replace U:=C0.chg U hC11 (λe=>by have:=O _ e;omega);replace L:=L.chg hC11 oM;replace h:=h.chg hC11 nM;have sz33:=hC11.size;exact Ac (Ap h<|BC<|Ec<|G6 (DZ C)<|⟨[⟨wk,p.1,p.2,wn,wt⟩],j,q,Y,tc2,hst2,C,by rw[List.length_append];exact hb27,by rw[List.length_append,BL];exact U,O,L,oM,by first|omega|(have:=C3 Z;omega),hq⟩);refine An C ?_ ?_;refine Ab C (Am C Va F C)<|Ac (Ap h<|Ax C C (λ_ W=>MK C C C Jv ⟨oM,oM,oM⟩)<|An C ?_ ?_);refine Ab C (Am C D8 F C)<|Ac (Ap h<|An C ?_ Ag);refine Cw C (Ay Nc C C) (Ft hPF _ (hG.ext L) (Fl src i j) (by have:=Fi src i j;omega) (by rw[AV hij Z];simp) p) ?_ (λcc wp hc1=>aI C (let ⟨he,hcc,hE⟩:=hc1;⟨p,by rw[BT Z h1 h2 h5 h6 h7,hm];simp only[];rw[← AV hij Z,he],hcc,L.trans hE⟩));rintro _ w52 ⟨wk,wn,wt,hw,rfl,hE31⟩;replace F:=F.ext hE31;replace K:=K.ext hE31;replace D:=D.ext hE31;replace L:=L.trans hE31;replace h:=h.ext hE31;have sz34:=hE31.size;have hst2:CN (src.length+1) p (src.drop i)=.ok ([⟨wk,p.1,p.2,wn,wt⟩],src.drop j,q):=by rw[BT Z h1 h2 h5 h6 h7,hm];simp only[];rw[← AV hij Z,hw]
 refine Ac (Ap h<|An C ?_ Ag);refine Cv C C H4 Gm C C C C C λb12 w53 hb28 hE32 hs12 hz19=>?_;replace F:=F.ext hE32;replace K:=K.ext hE32;replace D:=D.ext hE32;replace L:=L.trans hE32;replace h:=h.ext hE32;refine Ac (Ap h<|An C ?_ Ag);refine Bi C Jg C C C C D hb28 C C oM oM λY tc2 w54 U J=>?_;have O:∀x,rb Y=some x→w0.heap.size≤x∧x≠b:=Co J G oM;replace F:=F.grow J (λe=>by have:=G _ e.symm;have:=Q _ e.symm;omega);replace K:=K.grow J (λe=>by have:=G _ e.symm;have:=Q _ e.symm;omega);replace L:=L.grow J (λx hx=>(G x hx).1);replace h:=h.grow J (by simp only[List.mem_cons,List.not_mem_nil,or_false];intro c Z e;have:=G _ e.symm;have:=Q _ e.symm;omega);have sz35:=J.size;refine Ac (Ap h<|Ax C C (λ_ W=>B8 C)<|Ax C C (λ_ W=>BQ C Dl)<|An C ?_ Ag);refine A3 C C C D8 C F C C λw55 hb29 hC12=>?_;replace K:=K.chg hC12 oM;replace U:=C0.chg U hC12 (λe=>by have:=O _ e;omega);replace L:=L.chg hC12 oM;replace h:=h.chg hC12 nM;have sz36:=hC12.size;exact Ac (Ap h<|BC<|Ec<|G6 (DZ C)<|⟨[⟨wk,p.1,p.2,wn,wt⟩],j,q,Y,tc2,hst2,C,by rw[List.length_append];exact hb29,by rw[List.length_append,BL];exact U,O,L,oM,by first|omega|(have:=C3 Z;omega),hq⟩);refine An C ?_ ?_;refine Cw C (Ay Nc C C) (Ft hPF _ (hG.ext L) (Fl src i j) (by have:=Fi src i j;omega) (by rw[AV hij Z];simp) p) ?_ (λcc wp hc1=>aI C (let ⟨he,hcc,hE⟩:=hc1;⟨p,by rw[BT Z h1 h2 h5 h6 h7,hm];simp only[];rw[← AV hij Z,he],hcc,L.trans hE⟩));rintro _ w56 ⟨wk,wn,wt,hw,rfl,hE33⟩;replace F:=F.ext hE33;replace K:=K.ext hE33;replace D:=D.ext hE33;replace L:=L.trans hE33;replace h:=h.ext hE33;have sz37:=hE33.size;have hst2:CN (src.length+1) p (src.drop i)=.ok ([⟨wk,p.1,p.2,wn,wt⟩],src.drop j,q):=by rw[BT Z h1 h2 h5 h6 h7,hm];simp only[];rw[← AV hij Z,hw]
 refine Ac (Ap h<|An C ?_ ?_);refine Ab C (Am C D8 F C)<|Ac (Ap h<|An C ?_ Ag);refine Cv C C H4 Gm C C C C C λb13 w57 hb30 hE34 hs13 hz20=>?_;replace F:=F.ext hE34;replace K:=K.ext hE34;replace D:=D.ext hE34;replace L:=L.trans hE34;replace h:=h.ext hE34;refine Ac (Ap h<|An C ?_ Ag);refine Bi C Jg C C C C D hb30 C C oM oM λY tc2 w58 U J=>?_;have O:∀x,rb Y=some x→w0.heap.size≤x∧x≠b:=Co J G oM;replace F:=F.grow J (λe=>by have:=G _ e.symm;have:=Q _ e.symm;omega);replace K:=K.grow J (λe=>by have:=G _ e.symm;have:=Q _ e.symm;omega);replace L:=L.grow J (λx hx=>(G x hx).1);replace h:=h.grow J (by simp only[List.mem_cons,List.not_mem_nil,or_false];intro c Z e;have:=G _ e.symm;have:=Q _ e.symm;omega);have sz38:=J.size;refine Ac (Ap h<|Ax C C (λ_ W=>B8 C)<|Ax C C (λ_ W=>BQ C Dl)<|An C ?_ Ag);refine A3 C C C D8 C F C C λw59 hb31 hC13=>?_;replace K:=K.chg hC13 oM;replace U:=C0.chg U hC13 (λe=>by have:=O _ e;omega);replace L:=L.chg hC13 oM;replace h:=h.chg hC13 nM;have sz39:=hC13.size;exact Ac (Ap h<|BC<|Ec<|G6 (DZ C)<|⟨[⟨wk,p.1,p.2,wn,wt⟩],j,q,Y,tc2,hst2,C,by rw[List.length_append];exact hb31,by rw[List.length_append,BL];exact U,O,L,oM,by first|omega|(have:=C3 Z;omega),hq⟩);refine An C ?_ ?_;refine Cv C C H4 Gm C C C C C λb14 w60 hb32 hE35 hs14 hz21=>?_;replace F:=F.ext hE35;replace K:=K.ext hE35;replace D:=D.ext hE35;replace L:=L.trans hE35;replace h:=h.ext hE35;refine Ac (Ap h<|An C ?_ Ag);refine Ab C (Am C D8 F C)<|Ac (Ap h<|An C ?_ Ag);refine Bi C Jg C C C C D hb32 C C oM oM λY tc2 w61 U J=>?_;have O:∀x,rb Y=some x→w0.heap.size≤x∧x≠b:=Co J G oM;replace F:=F.grow J (λe=>by have:=G _ e.symm;have:=Q _ e.symm;omega);replace K:=K.grow J (λe=>by have:=G _ e.symm;have:=Q _ e.symm;omega);replace L:=L.grow J (λx hx=>(G x hx).1);replace h:=h.grow J (by simp only[List.mem_cons,List.not_mem_nil,or_false];intro c Z e;have:=G _ e.symm;have:=Q _ e.symm;omega);have sz40:=J.size;refine Ac (Ap h<|Ax C C (λ_ W=>B8 C)<|Ax C C (λ_ W=>BQ C Dl)<|An C ?_ Ag);refine A3 C C C D8 C F C C λw62 hb33 hC14=>?_;replace K:=K.chg hC14 oM;replace U:=C0.chg U hC14 (λe=>by have:=O _ e;omega);replace L:=L.chg hC14 oM;replace h:=h.chg hC14 nM;have sz41:=hC14.size;exact Ac (Ap h<|BC<|Ec<|G6 (DZ C)<|⟨[⟨wk,p.1,p.2,wn,wt⟩],j,q,Y,tc2,hst2,C,by rw[List.length_append];exact hb33,by rw[List.length_append,BL];exact U,O,L,oM,by first|omega|(have:=C3 Z;omega),hq⟩);exact Ag;exact Ag;exact Ag;refine An C ?_ ?_;refine Ab C (Am C Va F C)<|Ac (Ap h<|An C ?_ ?_);refine Ab C (Am C D8 F C)<|Ac (Ap h<|An C ?_ Ag)
 refine Ab C (Am C ZF F C)<|Ac (Ap h<|Ax C C (λ_ W=>MK C C C Jv ⟨oM,oM,oM⟩)<|An C ?_ Ag);refine Cw C (Ay Nc C C) (Ft hPF _ (hG.ext L) (Fl src i j) (by have:=Fi src i j;omega) (by rw[AV hij Z];simp) p) ?_ (λcc wp hc1=>aI C (let ⟨he,hcc,hE⟩:=hc1;⟨p,by rw[BT Z h1 h2 h5 h6 h7,hm];simp only[];rw[← AV hij Z,he],hcc,L.trans hE⟩));rintro _ w63 ⟨wk,wn,wt,hw,rfl,hE36⟩;replace F:=F.ext hE36;replace K:=K.ext hE36;replace D:=D.ext hE36;replace L:=L.trans hE36;replace h:=h.ext hE36;have sz42:=hE36.size;have hst2:CN (src.length+1) p (src.drop i)=.ok ([⟨wk,p.1,p.2,wn,wt⟩],src.drop j,q):=by rw[BT Z h1 h2 h5 h6 h7,hm];simp only[];rw[← AV hij Z,hw]
 refine Ac (Ap h<|An C ?_ Ag);refine Cv C C H4 Gm C C C C C λb15 w64 hb34 hE37 hs15 hz22=>?_;replace F:=F.ext hE37;replace K:=K.ext hE37;replace D:=D.ext hE37;replace L:=L.trans hE37;replace h:=h.ext hE37;refine Ac (Ap h<|An C ?_ Ag);refine Bi C Jg C C C C D hb34 C C oM oM λY tc2 w65 U J=>?_;have O:∀x,rb Y=some x→w0.heap.size≤x∧x≠b:=Co J G oM;replace F:=F.grow J (λe=>by have:=G _ e.symm;have:=Q _ e.symm;omega);replace K:=K.grow J (λe=>by have:=G _ e.symm;have:=Q _ e.symm;omega);replace L:=L.grow J (λx hx=>(G x hx).1);replace h:=h.grow J (by simp only[List.mem_cons,List.not_mem_nil,or_false];intro c Z e;have:=G _ e.symm;have:=Q _ e.symm;omega);have sz43:=J.size;refine Ac (Ap h<|Ax C C (λ_ W=>B8 C)<|Ax C C (λ_ W=>BQ C Dl)<|An C ?_ Ag);refine A3 C C C D8 C F C C λw66 hb35 hC15=>?_;replace K:=K.chg hC15 oM;replace U:=C0.chg U hC15 (λe=>by have:=O _ e;omega);replace L:=L.chg hC15 oM;replace h:=h.chg hC15 nM;have sz44:=hC15.size;exact Ac (Ap h<|BC<|Ec<|G6 (DZ C)<|⟨[⟨wk,p.1,p.2,wn,wt⟩],j,q,Y,tc2,hst2,C,by rw[List.length_append];exact hb35,by rw[List.length_append,BL];exact U,O,L,oM,by first|omega|(have:=C3 Z;omega),hq⟩);refine An C ?_ ?_;refine Ab C (Am C ZF F C)<|Ac (Ap h<|Ax C C (λ_ W=>MK C C C Jv ⟨oM,oM,oM⟩)<|An C ?_ ?_);refine Ab C (Am C D8 F C)<|Ac (Ap h<|An C ?_ Ag);refine Cw C (Ay Nc C C) (Ft hPF _ (hG.ext L) (Fl src i j) (by have:=Fi src i j;omega) (by rw[AV hij Z];simp) p) ?_ (λcc wp hc1=>aI C (let ⟨he,hcc,hE⟩:=hc1;⟨p,by rw[BT Z h1 h2 h5 h6 h7,hm];simp only[];rw[← AV hij Z,he],hcc,L.trans hE⟩));rintro _ w67 ⟨wk,wn,wt,hw,rfl,hE38⟩;replace F:=F.ext hE38;replace K:=K.ext hE38;replace D:=D.ext hE38;replace L:=L.trans hE38;replace h:=h.ext hE38;have sz45:=hE38.size;have hst2:CN (src.length+1) p (src.drop i)=.ok ([⟨wk,p.1,p.2,wn,wt⟩],src.drop j,q):=by rw[BT Z h1 h2 h5 h6 h7,hm];simp only[];rw[← AV hij Z,hw]
 refine Ac (Ap h<|An C ?_ Ag);refine Cv C C H4 Gm C C C C C λb16 w68 hb36 hE39 hs16 hz23=>?_;replace F:=F.ext hE39;replace K:=K.ext hE39;replace D:=D.ext hE39;replace L:=L.trans hE39;replace h:=h.ext hE39;refine Ac (Ap h<|An C ?_ Ag);refine Bi C Jg C C C C D hb36 C C oM oM λY tc2 w69 U J=>?_;have O:∀x,rb Y=some x→w0.heap.size≤x∧x≠b:=Co J G oM;replace F:=F.grow J (λe=>by have:=G _ e.symm;have:=Q _ e.symm;omega);replace K:=K.grow J (λe=>by have:=G _ e.symm;have:=Q _ e.symm;omega);replace L:=L.grow J (λx hx=>(G x hx).1);replace h:=h.grow J (by simp only[List.mem_cons,List.not_mem_nil,or_false];intro c Z e;have:=G _ e.symm;have:=Q _ e.symm;omega);have sz46:=J.size;refine Ac (Ap h<|Ax C C (λ_ W=>B8 C)<|Ax C C (λ_ W=>BQ C Dl)<|An C ?_ Ag);refine A3 C C C D8 C F C C λw70 hb37 hC16=>?_;replace K:=K.chg hC16 oM;replace U:=C0.chg U hC16 (λe=>by have:=O _ e;omega);replace L:=L.chg hC16 oM;replace h:=h.chg hC16 nM;have sz47:=hC16.size;exact Ac (Ap h<|BC<|Ec<|G6 (DZ C)<|⟨[⟨wk,p.1,p.2,wn,wt⟩],j,q,Y,tc2,hst2,C,by rw[List.length_append];exact hb37,by rw[List.length_append,BL];exact U,O,L,oM,by first|omega|(have:=C3 Z;omega),hq⟩);refine An C ?_ ?_;refine Cw C (Ay Nc C C) (Ft hPF _ (hG.ext L) (Fl src i j) (by have:=Fi src i j;omega) (by rw[AV hij Z];simp) p) ?_ (λcc wp hc1=>aI C (let ⟨he,hcc,hE⟩:=hc1;⟨p,by rw[BT Z h1 h2 h5 h6 h7,hm];simp only[];rw[← AV hij Z,he],hcc,L.trans hE⟩));rintro _ w71 ⟨wk,wn,wt,hw,rfl,hE40⟩;replace F:=F.ext hE40;replace K:=K.ext hE40;replace D:=D.ext hE40;replace L:=L.trans hE40;replace h:=h.ext hE40;have sz48:=hE40.size;have hst2:CN (src.length+1) p (src.drop i)=.ok ([⟨wk,p.1,p.2,wn,wt⟩],src.drop j,q):=by rw[BT Z h1 h2 h5 h6 h7,hm];simp only[];rw[← AV hij Z,hw]
 refine Ac (Ap h<|An C ?_ ?_);refine Ab C (Am C D8 F C)<|Ac (Ap h<|An C ?_ Ag);refine Cv C C H4 Gm C C C C C λb17 w72 hb38 hE41 hs17 hz24=>?_;replace F:=F.ext hE41;replace K:=K.ext hE41;replace D:=D.ext hE41;replace L:=L.trans hE41;replace h:=h.ext hE41;refine Ac (Ap h<|An C ?_ Ag);refine Bi C Jg C C C C D hb38 C C oM oM λY tc2 w73 U J=>?_;have O:∀x,rb Y=some x→w0.heap.size≤x∧x≠b:=Co J G oM;replace F:=F.grow J (λe=>by have:=G _ e.symm;have:=Q _ e.symm;omega);replace K:=K.grow J (λe=>by have:=G _ e.symm;have:=Q _ e.symm;omega);replace L:=L.grow J (λx hx=>(G x hx).1);replace h:=h.grow J (by simp only[List.mem_cons,List.not_mem_nil,or_false];intro c Z e;have:=G _ e.symm;have:=Q _ e.symm;omega);have sz49:=J.size;refine Ac (Ap h<|Ax C C (λ_ W=>B8 C)<|Ax C C (λ_ W=>BQ C Dl)<|An C ?_ Ag);refine A3 C C C D8 C F C C λw74 hb39 hC17=>?_;replace K:=K.chg hC17 oM;replace U:=C0.chg U hC17 (λe=>by have:=O _ e;omega);replace L:=L.chg hC17 oM;replace h:=h.chg hC17 nM;have sz50:=hC17.size;exact Ac (Ap h<|BC<|Ec<|G6 (DZ C)<|⟨[⟨wk,p.1,p.2,wn,wt⟩],j,q,Y,tc2,hst2,C,by rw[List.length_append];exact hb39,by rw[List.length_append,BL];exact U,O,L,oM,by first|omega|(have:=C3 Z;omega),hq⟩);refine An C ?_ ?_;refine Cv C C H4 Gm C C C C C λb18 w75 hb40 hE42 hs18 hz25=>?_;replace F:=F.ext hE42;replace K:=K.ext hE42;replace D:=D.ext hE42;replace L:=L.trans hE42;replace h:=h.ext hE42;refine Ac (Ap h<|An C ?_ Ag);refine Ab C (Am C D8 F C)<|Ac (Ap h<|An C ?_ Ag);refine Bi C Jg C C C C D hb40 C C oM oM λY tc2 w76 U J=>?_;have O:∀x,rb Y=some x→w0.heap.size≤x∧x≠b:=Co J G oM;replace F:=F.grow J (λe=>by have:=G _ e.symm;have:=Q _ e.symm;omega);replace K:=K.grow J (λe=>by have:=G _ e.symm;have:=Q _ e.symm;omega);replace L:=L.grow J (λx hx=>(G x hx).1);replace h:=h.grow J (by simp only[List.mem_cons,List.not_mem_nil,or_false];intro c Z e;have:=G _ e.symm;have:=Q _ e.symm;omega);have sz51:=J.size;refine Ac (Ap h<|Ax C C (λ_ W=>B8 C)<|Ax C C (λ_ W=>BQ C Dl)<|An C ?_ Ag);refine A3 C C C D8 C F C C λw77 hb41 hC18=>?_;replace K:=K.chg hC18 oM;replace U:=C0.chg U hC18 (λe=>by have:=O _ e;omega);replace L:=L.chg hC18 oM;replace h:=h.chg hC18 nM;have sz52:=hC18.size;exact Ac (Ap h<|BC<|Ec<|G6 (DZ C)<|⟨[⟨wk,p.1,p.2,wn,wt⟩],j,q,Y,tc2,hst2,C,by rw[List.length_append];exact hb41,by rw[List.length_append,BL];exact U,O,L,oM,by first|omega|(have:=C3 Z;omega),hq⟩);exact Ag;exact Ag;exact Ag;exact Ag
theorem Tx(w:wO)(c2 c3 c4:Nat) :
  CallsD prog 13 [pB c2,pB c3,pB c4].toArray .returning w λr m w'=>∃x,r=.returned x∧m=.returning∧(AY w w'):=by
 have h:=AY.refl w;refine D9 (R:=λw'=>AY w w') func13 C C C C OS<|Ew<|Cp<|CL<|Ab C (QI oQ C)<|Ac<|DD<|Gb C C<|CL<|Ab C (Dp C) ?_;exact Ac<|Ec<|G6 (DZ C)<|h
theorem Wz(w0 w:wO)(hX0:AY w0 w)(c2 c3 c4:Nat)(v2 x3 y3 v4:Value)(J:AS w c2 [v2] 36)(D:AS w c3 [x3,y3] 25)(h:AS w c4 [v4] 26)(g2:w0.heap.size≤c2)(g3:w0.heap.size≤c3)(g4:w0.heap.size≤c4)(n23:c2≠c3)(n24:c2≠c4)(n34:c3≠c4)(e:Int×Int) :
  CallsD prog 13 [pB c2,pB c3,pB c4].toArray (.panicking (Sn 47 e)) w λr m w'=>∃x,r=.returned x∧m=.panicking [{v:=.iface 47 (.agg #[iV e.1,iV e.2]),recovered:=true}]∧(AY w0 w'∧AS w' c2 [.slice none 0 0] 36∧AS w' c3 [iV e.1,iV e.2] 25∧AS w' c4 [iV 10] 26):=by
 have l2:=J.lt;have l3:=D.lt;have l4:=h.lt;have K:=hX0;have szx:=K.size;refine D9 (R:=λw'=>AY w0 w'∧AS w' c2 [.slice none 0 0] 36∧AS w' c3 [iV e.1,iV e.2] 25∧AS w' c4 [iV 10] 26) func13 C C C C QV<|Ew<|Cp<|CL<|Ab C (Ro oQ C)<|Ac<|DD<|Ko C C<|Cp<|CL ?_;refine Ab C (UJ C tas47)<|Ab C (Vh C C)<|Ab C (Vh C C)<|Ac<|DD<|Gb C C<|Cp<|CL<|CP C zr47 λb1 w1 hb1 Z hs1 hz1=>?_;replace J:=J.ext Z;replace D:=D.ext Z;replace h:=h.ext Z;replace K:=K.trans Z;refine A3 C C C ti47 C hb1 C C λw2 G W=>?_;replace J:=J.chg W oM;replace D:=D.chg W oM;replace h:=h.chg W oM;replace K:=K.chg W oM;have sz1:=W.size;refine Ac<|DD ?_;have hr1:=G;refine Eg mixed (A6 w2 [b1]) [(true,0),(true,1),(false,2),(false,3),(false,4)] kR kR C C λw3 L hz2=>?_;have F:A6 w2 [b1] w3:=A6.cons hr1 L (A6.nil _ _);refine⟨F,?_⟩;replace J:=J.ext L;replace D:=D.ext L;replace h:=h.ext L;replace G:=G.ext L;replace K:=K.trans L;refine A1 C (λ_ hS=>BQ C wD)<|A1 C (λ_ hS=>Dr C Jh (hr1.keep hS (.head _)) C)<|EV<|A3 C C C D8 C J C C λw4 Y O=>?_;replace D:=D.chg O oM;replace h:=h.chg O oM;replace G:=G.chg O oM;replace K:=K.chg O oM;replace F:=F.chg O nM;have sz2:=O.size;refine Ac (H5 F<|EV<|A3 C C C Jh C D C C λw5 hb4 Q=>?_);replace Y:=Y.chg Q oM;replace h:=h.chg Q oM;replace G:=G.chg Q oM;replace K:=K.chg Q oM;replace F:=F.chg Q nM;have sz3:=Q.size;refine Ac (H5 F<|EV<|A3 C C C Zk C h C C λw6 hb5 U=>?_);replace Y:=Y.chg U oM;replace hb4:=hb4.chg U oM;replace G:=G.chg U oM;replace K:=K.chg U oM;replace F:=F.chg U nM;have sz4:=U.size;exact Ac (H5 F<|Ex<|Ec<|G6 (DZ C)<|⟨K,Y,hb4,hb5⟩)
def wY(w w':wO)(v:Value):Except (Int×Int×Int) (List A4)→Prop
 |.error e=>v=.tuple #[.slice none 0 0,.agg #[iV e.1,iV e.2.1],iV e.2.2]∧AY w w'
 |.ok h=>∃D F,v=.tuple #[.slice D h.length F,.agg #[iV 0,iV 0],iV 0]∧(C0 w' 52 5 D F h.length (F6 h)∧∀b,rb D=some b→w.heap.size≤b)∧AY w w'
theorem Q9(hPF:yY)(w:wO)(hG:Gl w)(src:lU) :
  BF prog 7 #[S src] w λv w'=>wY w w' v (IH src):=by
 have J:=AY.refl w;refine wK (l:=[S src]) func7 C C C<|Cp<|CL<|CP C zr36 λb1 w1 O hE1 hs1 hz1=>?_;replace J:=J.trans hE1;refine CP C Wi λb2 w2 Q hE2 hs2 hz2=>?_;replace O:=O.ext hE2;replace J:=J.trans hE2;refine CP C zr26 λb3 w3 U hE3 hs3 hz3=>?_;replace O:=O.ext hE3;replace Q:=Q.ext hE3;replace J:=J.trans hE3;refine Ac<|DD<|Cp<|Cp<|CL<|Ab C (A0 C)<|Ab C (N1 C Jv)<|Ab C (aT C C)<|Ac<|DD ?_;refine Pb C (λh1=>?_) (λh1=>?_);refine Cp<|CL<|Ab C (DO C tF Wi C)<|A3 C C C D8 C O C C λw4 hb4 hC1=>?_;replace Q:=Q.chg hC1 oM;replace U:=U.chg hC1 oM;replace J:=J.chg hC1 oM;have sz1:=hC1.size;refine A3 C C C Jh C Q C C λw5 hb5 hC2=>?_;replace hb4:=hb4.chg hC2 oM;replace U:=U.chg hC2 oM;replace J:=J.chg hC2 oM;have sz2:=hC2.size;refine A3 C C C Zk C U C C λw6 hb6 hC3=>?_;replace hb4:=hb4.chg hC3 oM;replace hb5:=hb5.chg hC3 oM;replace J:=J.chg hC3 oM;have sz3:=hC3.size;exact Ac<|DD<|Km<|XA<|λtmps hσ=>Ch hσ (EB C (B1 C D8 hb4 C) (Ae C Jh hb5 C) (B1 C Zk hb6 C)) ⟨_,C,by rw[IH,if_pos h1];exact⟨C,J⟩⟩;refine I7<|DD<|Cp<|CL<|Ab C (Vn C)<|Qq C ?_;have hlen:src.length≤65536:=by have:=dF h1;omega
 refine Ac<|DD<|Cp ?_;have hb1B:=O;have hb2B:=Q;have hb3B:=U;have hX0:=J;refine CL<|Ab C (A0 C)<|Ab C (DO C tF Wi C)<|Ab C (DO C pl50 zr50 C)<|Ev C C C λb4 w7 hb7 hE4 hs4 hz4=>?_;replace O:=O.ext hE4;replace Q:=Q.ext hE4;replace U:=U.ext hE4;replace J:=J.trans hE4;refine Ab C (Dp C)<|Ac<|DD<|Cp<|Ew ?_;refine Em (λk σ ds w'=>∃(j n:Nat)(q:Ps)(D:List A4)(ta:oA)(tc:Nat),k=src.length-j∧ds=[{target:=.fn (.func 13) ([pB b1,pB b2,pB b3]:lV).toArray,args:=#[]}]∧σ=(E4 2 (pB b1) 3 (pB b2) 4 (pB b3) 5 (pB b4))∧j≤src.length∧src.length≤j+n∧Pk j q∧D.length≤j∧Ee (src.length+1) src.length (1,1) src=UP D (Ee (src.length+1) n q (src.drop j))∧AS w' b4 [S src,iV ((j:Nat):Int),iV q.1,iV q.2,(.slice ta D.length tc)] 50∧C0 w' 52 5 ta tc D.length (F6 D)∧(∀x,rb ta=some x→w3.heap.size≤x∧x≠b4)∧AY w3 w') src.length (E4 2 (pB b1) 3 (pB b2) 4 (pB b3) 5 (pB b4)) lE ⟨0,src.length,(1,1),[],none,0,C,C,C,oM,oM,⟨dC,dC,dC,dC⟩,by simp,(gO _).symm,hb7,GC _ _ _,(λx hx=>by cases hx),hE4⟩ ?_;rintro _ _ _ wl ⟨j,n,q,D,ta,tc,rfl,rfl,rfl,hjl,hn,hq,htl,hm,h,F,W,L⟩;have szl:=L.size;have lts:=h.lt;replace J:=hX0.trans L;have Z:=hb1B.ext L;have K:=hb2B.ext L;have G:=hb3B.ext L;refine Cp<|Cp<|CL<|Ab C (A0 C)<|A5 C (Ay Uy C C) (I6 _ b4 src j q (.slice ta D.length tc) h) ?_;rintro _ w8 ⟨rfl,Y⟩;replace Z:=Z.ext Y;replace K:=K.ext Y;replace G:=G.ext Y;replace h:=h.ext Y;replace F:=F.ext Y;replace J:=J.trans Y;replace L:=L.trans Y;have sz4:=Y.size;refine Ac<|DD<|Pb C (λh2=>?_) (λh2=>?_);refine I7<|DD<|Ew<|CL<|Ab C (A0 C) ?_;obtain⟨c,hc⟩:=K9 (show j<src.length by have:=dT h2;omega);obtain⟨n,rfl⟩:∃n1,n=n1+1:=⟨n-1,by have:=C3 hc;omega⟩;refine Cw C (Ay ent15 C C) (Y1 hPF w3 _ (hG.ext hX0) L b4 oM src j q D ta tc h F W c hc hq hlen htl) ?_ (λcc wp hcc tmps hσ=>by obtain⟨e,he,rfl,hE⟩:=hcc;have sz:=hE.size;exact FR (by simp) pE (Wz w wp (hX0.trans hE) b1 b2 b3 _ _ _ _ (hb1B.ext hE) (hb2B.ext hE) (hb3B.ext hE) oM oM oM oM oM oM e) (λwz hz=>by rw[KX];obtain⟨h1,h2,h3,h4⟩:=hz;exact Ch hσ (EB C (B1 C D8 h2 C) (Ae C Jh h3 C) (B1 C Zk h4 C)) ⟨_,C,by rw[IH,if_neg (by rw[decide_eq_true_eq];omega),hm,Ze hc he,UP];exact⟨C,h1⟩⟩));rintro _ w9 ⟨ot,i1,p1,ta1,tc1,hst,rfl,hsc2,hrow2,hlow2,hX2,hi1,hi2,hp1⟩;have hot:(D++ot).length≤i1:=by have:=Qy hst;rw[List.length_append];omega
 have hm2:=WA hc hst hm;refine Ac<|Ec<|HH (src.length-i1) (E4 2 (pB b1) 3 (pB b2) 4 (pB b3) 5 (pB b4)) oM lE ⟨i1,n,p1,D++ot,ta1,tc1,C,C,C,hi2,oM,hp1,hot,hm2,hsc2,hrow2,hlow2,hX2⟩;refine L8<|XM<|O0<|PE<|DD<|Cp<|CL<|Ab C (A0 C)<|Ab C (B8 C)<|Ab C (BQ C Dl) ?_;refine Ab C (Am C D8 h C)<|Ab C (DO C tF Wi C)<|A3 C C C D8 C Z C C λw10 hb8 hC4=>?_;replace K:=K.chg hC4 oM;replace G:=G.chg hC4 oM;replace h:=h.chg hC4 oM;replace F:=C0.chg F hC4 (λe=>by have:=W _ e;omega);replace J:=J.chg hC4 oM;clear L;have sz5:=hC4.size;refine A3 C C C Jh C K C C λw11 hb9 hC5=>?_;replace hb8:=hb8.chg hC5 oM;replace G:=G.chg hC5 oM;replace h:=h.chg hC5 oM;replace F:=C0.chg F hC5 (λe=>by have:=W _ e;omega);replace J:=J.chg hC5 oM;have sz6:=hC5.size;refine A3 C C C Zk C G C C λw12 hb10 hC6=>?_;replace hb8:=hb8.chg hC6 oM;replace hb9:=hb9.chg hC6 oM;replace h:=h.chg hC6 oM;replace F:=C0.chg F hC6 (λe=>by have:=W _ e;omega);replace J:=J.chg hC6 oM;have sz7:=hC6.size;refine Ac<|DD<|Km ?_;intro tmps hσ;refine FR (by simp) pE (Tx _ b1 b2 b3) λwz hz=>?_;have hlx:IH src=.ok D:=by rw[IH,if_neg (by rw[decide_eq_true_eq];omega),hm,JJ (by have:=dF h2;omega),Ip];simp[UP]
 refine Ch hσ (EB C (B1 C D8 (hb8.ext hz) C) (Ae C Jh (hb9.ext hz) C) (B1 C Zk (hb10.ext hz) C)) ⟨_,C,?_⟩;rw[hlx];exact⟨ta,tc,C,⟨F.ext hz,λx hx=>by have:=W x hx;omega⟩,J.trans hz⟩
end Go.Proofs.YtgdndhedjlmagaaGreatDoor
namespace Go.SP
open Go.SW Go.RowKit
def H8(l:lU):Prop:=∀c∈l,48≤c.toNat∧c.toNat≤57
def FV(b:lU):Bool→lU→Prop
 |false,rest=>∃a2,rest=a2++46::b∧H8 a2
 |true,rest=>H8 rest∧rest.length≤b.length
variable {dot:Bool}
theorem FV.cons{b r:lU}{c:UInt8}(h:FV b dot (c::r)):(c=46∧dot=false∧r=b)∨((48≤c.toNat∧c.toNat≤57)∧FV b dot r):=by
 cases dot with
 |false =>
   obtain⟨a2,D,G⟩:=h
   cases a2 with
   |nil=>left;simp at D;exact⟨D.1,C,D.2⟩
   |cons d a3 =>
     right
     simp at D;exact⟨D.1▸G d (.head _),a3,D.2,λx F=>G x (.tail _ F)⟩
 |true=>exact .inr ⟨h.1 c (.head _),λx F=>h.1 x (.tail _ F),by have:=h.2;simp only[List.length_cons] at this;omega⟩
theorem FV.nil{b:lU}(h:FV b dot []):dot=true:=by
 cases dot with
 |false=>obtain⟨a2,D,_⟩:=h;cases a2 <;> cases D
 |true=>rfl
def JU(l:lU):lU:=l.filter (λc=>c != 46)
theorem VE{l:lU}(h:H8 l):JU l=l:=by
 unfold JU;rw[List.filter_eq_self];intro c D;have:=h c D;have F:c≠46:=λe=>by subst e;revert this;decide
 simpa using F
theorem IW{c:UInt8}{l:lU}(h:48≤c.toNat∧c.toNat≤57):JU (c::l)=c::JU l:=by
 unfold JU;rw[List.filter_cons_of_pos];have D:c≠46:=λe=>by subst e;revert h;decide
 simpa using D
theorem PL(l:lU):JU (46::l)=JU l:=by
 unfold JU;rw[List.filter_cons_of_neg];simp
theorem YF{a b:lU}(h:H8 a)(D:H8 b):JU (a++46::b)=a++b:=by
 induction a with
 |nil=>rw[List.nil_append,PL,VE D,List.nil_append]
 |cons c a F=>rw[List.cons_append,IW (h c (.head _)),F λx G=>h x (.tail _ G)];rfl
theorem NI(n:Nat)(c:UInt8)(l:lU):CT n (c::l)=CT (n*10+(c.toNat-48)) l:=by conv=>lhs;unfold CT
theorem dJ(n:Nat):CT n []=n:=by conv=>lhs;unfold CT
theorem Qi:∀(l:lU)(n:Nat),n≤CT n l
 | [],n=>Nat.le_refl _
 |c::l,n=>by
   have:=Qi l (n*10+(c.toNat-48));rw[NI];omega
theorem Yd:∀(l:lU)(n:Nat),H8 l→CT n l<(n+1)*10 ^ l.length
 | [],n,_=>by
   rw[dJ,List.length_nil,Nat.pow_zero];omega
 |c::l,n,h=>by
   have G:=h c (.head _);have:=Yd l (n*10+(c.toNat-48)) λx D=>h x (.tail _ D);rw[NI,List.length_cons,Nat.pow_succ];refine Nat.lt_of_lt_of_le this ?_;have F:n*10+(c.toNat-48)+1≤(n+1)*10:=oM
   calc (n*10+(c.toNat-48)+1)*10 ^ l.length≤(n+1)*10*10 ^ l.length:=Nat.mul_le_mul_right _ F
     _=(n+1)*(10 ^ l.length*10):=by rw[Nat.mul_assoc,Nat.mul_comm 10]
theorem Of{l:lU}(h:H8 l)(D:l.length≤15):CT 0 l<1000000000000000:=by
 have F:=Yd l 0 h;have G:10 ^ l.length≤10 ^ 15:=Nat.pow_le_pow_right dC D;have J:(10:Nat) ^ 15=1000000000000000:=dC;omega
theorem low46:∀n:Fin 58,46≤n.val→IntKind.u8.wrap (BitVec.ofInt 8 (n.val:Int) ||| BitVec.ofInt 8 32).toNat=(n.val:Int):=dC
theorem lT{z:lU}(h:(Lib.cut z [46]).2.2=true):z=(Lib.cut z [46]).1++46::(Lib.cut z [46]).2.1:=by
 unfold Lib.cut at h ⊢
 split at h
 · rename_i G
   rw[if_pos G];rcases Lib.index_spec z [46] with ⟨F,_⟩|⟨i,F,O,D,_⟩
   · omega
   · simp only[F,Int.toNat_natCast,List.length_cons,List.length_nil]
     unfold Lib.occAt at D
     cases hd:z.drop i with
     |nil=>rw[hd] at D;cases D
     |cons c t =>
       rw[hd] at D
       have J:c=46:=by
         have K:(46:UInt8)=c:=by simpa[List.isPrefixOf] using D
         exact K.symm
       have L:z.drop (i+(0+1))=t:=by
         rw[← List.drop_drop,hd];rfl
       rw[L,← J,← hd,List.take_append_drop]
 · cases h
theorem QO{s a b:lU}(h:HT s=some (a,b)):H8 a∧H8 b∧a≠[]∧b≠[]∧a.length+b.length≤15∧Bm s=a++46::b:=by
 unfold HT at h;simp only at h
 split at h
 · rename_i D
   simp only[Bool.and_eq_true,decide_eq_true_eq] at D;obtain⟨F,G,J,K⟩:=D;simp only[Option.some.injEq,Prod.mk.injEq] at h;obtain⟨rfl,rfl⟩:=h;have d1:=GI G;have d2:=GI J;exact⟨d1.2,d2.2,by simpa using d1.1,by simpa using d2.1,oM,lT F⟩
 · cases h
end Go.SP
namespace Go.SP
variable {j:Nat}
theorem Kk{s r:lU}{c:UInt8}(h:s.drop j=c::r):s.drop (j+1)=r:=by
 rw[← List.drop_drop,h];rfl
theorem Sc{s r:lU}{c:UInt8}(h:s.drop j=c::r):s[j]?=some c:=by
 have:(s.drop j)[0]?=some c:=by rw[h];rfl
 simpa using this
theorem YT(o:Nat){s a b:lU}(F:H8 a)(h:a≠[])(D:s.drop o=a++46::b):∃c,s[((o:Int)+1).toNat]?=some c∧46≤c.toNat∧c.toNat≤57:=by
 have e:((o:Int)+1).toNat=o+1:=oM;rw[e];rcases a with _|⟨x,_|⟨y,a⟩⟩
 · exact absurd C h
 · exact⟨46,Sc (r:=b) (Kk (c:=x) (by simpa using D)),dC,dC⟩
 · have:=F y (.tail _ (.head _))
   exact⟨y,Sc (r:=a++46::b) (Kk (c:=x) (by simpa using D)),oM,oM⟩
end Go.SP
namespace Go.SP
open Ieee
theorem Zu{k:Nat}{d e:Datum}(G:d.isNaN=false)(h:e.isNaN=false∧e.isInfinity=false∧e.isZero=false):∃r,d.quotient k e=some r:=by
 obtain⟨h,D,J⟩:=h
 cases d with
 |nan s t=>cases G
 |infinity s=>cases e with
   |nan s t=>cases h
   |infinity s=>cases D
   |number s m p=>exact⟨_,C⟩
 |number s m p=>cases e with
   |nan s t=>cases h
   |infinity s=>cases D
   |number s' F K =>
     cases F with
     |zero=>cases J
     |succ F=>exact⟨_,C⟩
theorem Y0{x:Nat}(h:x % 9223372036854775808≤9218868437227405312):(double.read x).isNaN=false:=by
 unfold Format.read;simp only[show double.signWeight=9223372036854775808 from by decide,show double.infRung=9218868437227405312 from by decide]
 split
 · rfl
 · split
   · rfl
   · split
     · rfl
     · omega
theorem Rq(m:Nat):FloatKind.f64.nearest (m:Int)≤9218868437227405312:=by
 unfold FloatKind.nearest FloatKind.encode;have h:decide ((m:Int)<0)=false:=by simp
 rw[h];show double.nearest false m 0≤_;unfold Format.nearest
 split
 · decide
 · simp only[Format.word,Bool.false_eq_true,if_false]
   exact Nat.le_trans (Nat.min_le_right _ _) dC
theorem hZ{x:Nat}(h:x≤9218868437227405312):Op.negFloat .f64 x % 9223372036854775808=x:=by
 have e:(9223372036854775808:Nat)=2 ^ 63:=dC;have D:(FloatKind.f64.format.exponentBits+FloatKind.f64.format.fractionBits)=63:=dC;unfold Op.negFloat;rw[e,D,Nat.xor_mod_two_pow,Nat.mod_self,Nat.xor_zero,Nat.mod_eq_of_lt (by omega)]
theorem bN:∀n:Fin 15,(double.read (G5.getD n.val 0)).isNaN=false∧(double.read (G5.getD n.val 0)).isInfinity=false∧(double.read (G5.getD n.val 0)).isZero=false:=by decide +kernel
theorem SL(neg:Bool)(m n:Nat)(D:n<15):∃r,FloatKind.f64.format.div (if neg then Op.negFloat .f64 (FloatKind.f64.nearest (m:Int)) else FloatKind.f64.nearest (m:Int)) (G5.getD n 0)=some r:=by
 have h:=Rq m
 have F:(double.read (if neg then Op.negFloat .f64 (FloatKind.f64.nearest (m:Int)) else FloatKind.f64.nearest (m:Int))).isNaN=false:=by
   apply Y0
   cases neg with
   |true=>rw[if_pos C,hZ h];exact h
   |false=>rw[if_neg (by decide),Nat.mod_eq_of_lt (by omega)];exact h
 obtain⟨r,G⟩:=Zu (k:=double.fractionBits+2) F (bN ⟨n,D⟩);exact⟨double.write r,congrArg (Option.map double.write) G⟩
end Go.SP
namespace Go.SP
variable {n:Nat}
theorem TR(h:n<15):G5[n]?=some (G5.getD n 0):=by
 have D:n<G5.length:=h;rw[List.getD_eq_getElem?_getD,List.getElem?_eq_getElem D];rfl
end Go.SP
namespace Go.Proofs.YtgdndhedjlmagaaGreatDoor
open Go.SW Go.SP Go.RowKit Go.Proofs.Tryz
theorem eB(w:wO)(c:UInt8)(r:lU)(K:48≤c.toNat∧c.toNat≤57) :
  BF prog 191 #[S (c::r),S [105,110,102,105,110,105,116,121]] w λv w'=>v=iV 0∧AY w w':=by
 have h:=AY.refl w;refine enter func191 C C C<|AW [] 11 [] (As _) (λ_=>Ab C (lG C C)<|AP [.sq _] 10 [] (As _) (λ_=>?_));refine Em (λk σ ds w'=>k=1∧ds=[]∧σ=(E4 0 (S (c::r)) 1 (S [105,110,102,105,110,105,116,121]) 5 (iV (if (((c::r).length:Nat):Int)<(([105,110,102,105,110,105,116,121]:lU).length:Int) then (((c::r).length:Nat):Int) else (([105,110,102,105,110,105,116,121]:lU).length:Int))) 6 (iV 0))∧AY w w') 1 (E4 0 (S (c::r)) 1 (S [105,110,102,105,110,105,116,121]) 5 (iV (if (((c::r).length:Nat):Int)<(([105,110,102,105,110,105,116,121]:lU).length:Int) then (((c::r).length:Nat):Int) else (([105,110,102,105,110,105,116,121]:lU).length:Int))) 6 (iV 0)) lE ⟨C,C,C,h⟩ ?_;rintro _ _ _ wl ⟨rfl,rfl,rfl,h⟩;refine AW [] 8 [] (As _) (λ_=>sP 15 C (λD=>?_) (λD=>?_));refine AW [.sq _] 9 [] (As _) (λ_=>Ab C (DC (c:=c) C C Jv dC C)<|AP [.sq _,.bk _,.sq _] 9 [] (As _) (λ_=>sL 23 C (λF=>?_) (λF=>?_)))
 ·
  exfalso;have G:=dT F;omega
 refine AP [.sq _,.sq _,.bk _,.sq _] 13 [] (As _) (λ_=>Ab C (DC (c:=105) C C Jv dC C)<|AP [.sq _,.bk _,.sq _] 3 [] (As _) (λ_=>sP 33 C (λJ=>?_) (λJ=>?_)));exact AW [.bk _,.sq _] 10 [] (As _) (λ_=>Z9<|KG [.bk _,.sq _] 2 [] (As _) (λ_=>Bv (AG C (Al C))<|⟨C,h⟩))
 ·
  exfalso;exact absurd (show (c.toNat:Int)=105 by simpa using J) oM
 ·
  exfalso;have G:=dF D;revert G;simp only[List.length_cons,List.length_nil];split <;> omega
theorem T5(w:wO)(c:UInt8)(r:lU)(U:48≤c.toNat∧c.toNat≤57) :
  BF prog 175 #[S (c::r)] w λv w'=>v=.tuple #[.float .f64 0,iV 0,.bool false]∧AY w w':=by
 have Q:=AY.refl w;refine enter func175 C C C<|AW [] 15 [] (As _) (λ_=>sP 10 C (λD=>?_) (λD=>?_))
 ·
  exfalso;have h:=(beq_iff_eq).1 D;simp only[List.length_cons] at h;omega
 refine AW [.sq _] 17 [] (As _) (λ_=>Ab C (DC (c:=c) C C Jv dC C)<|AP [.sq _,.sq _] 18 [] (As _) (λ_=>sP 13 C (λF=>?_) (λF=>?_)))
 ·
  exfalso;have h:=(beq_iff_eq).1 F;omega
 refine AW [.sq _,.sq _,.sq _,.bk _,.sq _,.bk _,.sq _,.bk _,.sq _,.bk _,.sq _] 6 [] (As _) (λ_=>sP 13 C (λG=>?_) (λG=>?_))
 ·
  exfalso;have h:=(beq_iff_eq).1 G;omega
 refine AW [.sq _,.sq _,.bk _,.sq _,.bk _,.sq _,.bk _,.sq _,.bk _,.sq _] 11 [] (As _) (λ_=>sP 16 C (λJ=>?_) (λJ=>?_))
 ·
  exfalso;have h:=(beq_iff_eq).1 J;omega
 refine AW [.sq _,.sq _,.sq _,.bk _,.sq _,.bk _,.sq _,.bk _,.sq _,.bk _,.sq _] 6 [] (As _) (λ_=>sP 16 C (λK=>?_) (λK=>?_))
 ·
  exfalso;have h:=(beq_iff_eq).1 K;omega
 refine AW [.sq _,.sq _,.bk _,.sq _,.bk _,.sq _,.bk _,.sq _,.bk _,.sq _] 10 [] (As _) (λ_=>sP 19 C (λL=>?_) (λL=>?_))
 ·
  exfalso;have h:=(beq_iff_eq).1 L;omega
 refine AW [.sq _,.sq _,.bk _,.sq _,.bk _,.sq _,.bk _,.sq _,.bk _,.sq _] 6 [] (As _) (λ_=>sP 19 C (λO=>?_) (λO=>?_))
 ·
  exfalso;have h:=(beq_iff_eq).1 O;omega
 exact AW [.sq _,.bk _,.sq _,.bk _,.sq _,.bk _,.sq _,.bk _,.sq _] 20 [] (As _) (λ_=>Bv (EB C (Al C) (Al C) (Al C))<|⟨C,Q⟩)
theorem T9(w:wO)(c:UInt8)(r:lU)(G:48≤c.toNat∧c.toNat≤57) :
  BF prog 175 #[S (45::c::r)] w λv w'=>v=.tuple #[.float .f64 0,iV 0,.bool false]∧AY w w':=by
 have D:=AY.refl w;refine enter func175 C C C<|AW [] 15 [] (As _) (λ_=>sP 10 C (λF=>?_) (λF=>?_))
 ·
  exfalso;have J:=(beq_iff_eq).1 F;simp only[List.length_cons] at J;omega
 refine AW [.sq _] 17 [] (As _) (λ_=>Ab C (DC (c:=45) C C Jv dC C)<|AP [.sq _,.sq _] 34 [] (As _) (λ_=>Ab C (DC (c:=45) C C Jv dC C)<|AP [.sq _,.sq _,.bk _,.sq _,.bk _,.sq _,.bk _,.sq _] 15 [] (As _) (λ_=>Ab C (Nf C C Jv)<|AP [.bk _,.sq _,.bk _,.sq _,.bk _,.sq _] 8 [] (As _) (λ_=>A5 C (Ay tB C C) (eB _ c r G) ?_))));rintro _ L ⟨rfl,h⟩;replace D:=D.trans h;have K:=h.size;exact AP [.sq _,.sq _,.bk _,.sq _,.bk _,.sq _] 43 [] (As _) (λ_=>Bv (EB C (Al C) (Al C) (Al C))<|⟨C,D⟩)
theorem Wv(w:wO)(c:UInt8)(h:46≤c.toNat∧c.toNat≤57) :
  BF prog 161 #[.int .u8 c.toNat] w λv w'=>v=.int .u8 c.toNat∧AY w w':=by
 have D:=AY.refl w;exact enter func161 C C C<|AW [] 8 [] (As _) (λ_=>Ab C (aC (c.toNat:Int) C C (low46 ⟨c.toNat,oM⟩ h.1))<|AP [.sq _] 4 [] (As _) (λ_=>Bv (AG C (Al C))<|⟨C,D⟩))
theorem NH(w:wO)(s:lU)(a b:lU)(ha:H8 a)(hb:H8 b)(K:a≠[])(hbne:b≠[])(hab:a.length+b.length≤15)(neg:Bool)(hs:s=(bif neg then [45] else [])++(a++46::b)) :
  BF prog 176 #[S s] w λv w'=>v=.tuple #[.int .u64 (CT 0 (a++b):Int),iV (if CT 0 (a++b)=0 then 0 else -(b.length:Int)),.bool neg,.bool false,.bool false,iV (s.length:Int),.bool true]∧AY w w':=by
 have hal:1≤a.length:=List.length_pos_iff.2 K;have hbl:1≤b.length:=List.length_pos_iff.2 hbne
 obtain⟨a0,ar,Y⟩:∃c r,a=c::r:=by
  cases a with
  |nil=>exact absurd C K
  |cons c r=>exact⟨c,r,C⟩
 obtain⟨o,ho,ho1⟩:∃o,(bif neg then 1 else 0:Nat)=o∧o≤1:=⟨_,C,by cases neg <;> decide⟩;have Z:s.drop o=a++46::b:=by subst ho;rw[hs];cases neg <;> rfl
 have hlo:s.length=o+(a.length+(b.length+1)):=by subst ho;rw[hs];cases neg <;> simp <;> omega
 obtain⟨c0,hc0,hcn⟩:∃c:UInt8,s[0]?=some c∧(c.toNat=45∧neg=true∨(48≤c.toNat∧c.toNat≤57)∧neg=false):=by
  cases neg with
  |true=>exact⟨45,by rw[hs];rfl,.inl ⟨C,C⟩⟩
  |false=>exact⟨a0,by rw[hs,Y];rfl,.inr ⟨ha a0 (Y▸List.mem_cons_self),C⟩⟩
 have ha0:s[o]?=some a0:=by rw[← Nat.add_zero o,← List.getElem?_drop,Z,Y];rfl
 obtain⟨a1,ha1,ha1d⟩:=YT (s:=s) (b:=b) o ha K Z;have G:=AY.refl w;refine enter func176 C C C<|AW [] 11 [] (As _) (λ_=>YV<|AW [] 14 [] (As _) (λ_=>sP 24 C (λU=>?_) (λU=>?_)))
 ·
  exfalso;have D:=dT U;omega
 refine AW [.sq _] 3 [] (As _) (λ_=>RH (E9 0 (S s) 2 (.int .u64 0) 3 (iV 0) 4 (.bool neg) 5 (.bool false) 6 (.bool false) 7 (iV (o:Int)) 8 (.bool false) 9 (.bool false)) (λw'=>AY w w') ?_ ?_);refine AW [] 4 [] (As _) (λ_=>Ab C (DC (c:=c0) C C Jv dC hc0)<|AP [.sq _] 9 [] (As _) (λ_=>sP 28 C (λh2=>?_) (λh2=>?_)))
 ·
  exfalso;have D:=(beq_iff_eq).1 h2;omega
 refine AW [.bk _] 7 [] (As _) (λ_=>sP 32 C (λh3=>?_) (λh3=>?_));refine AW [.bk _] 2 [] (As _) (λ_=>?_);obtain rfl:neg=true:=by have D:(c0.toNat:Int)=45:=(beq_iff_eq).1 h3;rcases hcn with h|h;exact h.2;omega
 subst ho;exact AW [.sq _,.bk _] 2 [] (As _) (λ_=>Ab C (Nx (1) C C dC)<|AP [.sq _,.bk _] 7 [] (As _) (λ_=>Qw lE G));obtain rfl:neg=false:=by have D:¬(c0.toNat:Int)=45:=(by simpa using h3);rcases hcn with h|h;omega;exact h.2
 subst ho;exact AW [.bk _] 3 [] (As _) (λ_=>Qw lE G);rintro wl G;refine AW [] 15 [] (As _) (λ_=>RH (E11 0 (S s) 2 (.int .u64 0) 3 (iV 0) 4 (.bool neg) 5 (.bool false) 6 (.bool false) 7 (iV (o:Int)) 8 (.bool false) 9 (.bool false) 10 (.int .u64 10) 11 (iV 19)) (λw'=>AY w w') ?_ ?_);refine AW [] 8 [] (As _) (aI ⟨oM,oM⟩<|λ_=>sL 41 C (λh4=>?_) (λh4=>?_));refine AP [.sq _] 2 [] (As _) (λ_=>BN C C C<|Ab C (DC (c:=a0) C C Jv oM (by rw[Int.toNat_natCast];exact ha0))<|AP [.sq _] 3 [] (As _) (λ_=>sL 47 C (λh5=>?_) (λh5=>?_)));refine AP [.sq _] 3 [] (As _) (aI ⟨oM,oM⟩<|λ_=>BN C C C<|Ab C (DC (c:=a1) C C Jv oM ha1)<|BN C C C<|A5 C (Ay uA C C) (Wv _ a1 ha1d) ?_);rintro _ w1 ⟨rfl,hE1⟩;replace G:=G.trans hE1;have sz1:=hE1.size;refine AP [.sq _] 4 [] (As _) (λ_=>sP 54 C (λh6=>?_) (λh6=>?_))
 ·
  exfalso;have D:=(beq_iff_eq).1 h6;omega
 exact AW [] 2 [] (As _) (λ_=>Qw lE G);exact AP [.sq _] 11 [] (As _) (λ_=>Qw lE G)
 ·
  exfalso;have D:=dF h4;omega
 rintro wl G;refine AW [] 26 [] (As _) (λ_=>Y6<|KG [.sq _] 3 [] (As _) (λ_=>?_));refine Em (λk σ ds w'=>∃(j m nd:Nat)(L:Int)(dot sd:Bool)(rest:lU),k=rest.length∧ds=[]∧σ=(wQ 0 (S s) 2 (.int .u64 (m:Int)) 3 (iV 0) 4 (.bool neg) 5 (.bool false) 6 (.bool false) 7 (iV (j:Int)) 8 (.bool false) 9 (.bool false) 10 (.int .u64 10) 11 (iV 19) 13 (.bool dot) 14 (.bool sd) 15 (iV (nd:Int)) 16 (iV (nd:Int)) 17 (iV L))∧s.drop j=rest∧j+rest.length=s.length∧FV b dot rest∧CT 0 (a++b)=CT m (JU rest)∧(dot=true→L=(nd:Int)-((b.length:Int)-rest.length))∧nd≤j ∧ -(j:Int)≤L∧L≤j∧(nd=0↔m=0)∧(sd=true∨rest=a++46::b)∧AY w w') (a++46::b).length (wQ 0 (S s) 2 (.int .u64 ((0:Nat):Int)) 3 (iV 0) 4 (.bool neg) 5 (.bool false) 6 (.bool false) 7 (iV (o:Int)) 8 (.bool false) 9 (.bool false) 10 (.int .u64 10) 11 (iV 19) 13 (.bool false) 14 (.bool false) 15 (iV ((0:Nat):Int)) 16 (iV ((0:Nat):Int)) 17 (iV 0)) lE ⟨o,0,0,0,false,false,a++46::b,C,C,C,Z,by rw[hlo];simp <;> omega,⟨a,C,ha⟩,by rw[YF ha hb],(λh=>by cases h),oM,oM,oM,by simp,.inr C,G⟩ ?_;rintro _ _ _ wl ⟨j,m,nd,L,dot,sd,rest,rfl,rfl,rfl,O,J,hfv,F,W,hnd,hd1,hd2,Q,hsd,G⟩;have hml:m<1000000000000000:=by have U:=Qi (JU rest) m;have h2:=Of (l:=a++b) (λx hx=>(List.mem_append.1 hx).elim (ha x) (hb x)) (by rw[List.length_append];exact hab);omega
 have hsl:s.length≤17:=oM;refine AW [] 9 [] (As _) (λ_=>sP 60 C (λh7=>?_) (λh7=>?_));refine AW [.sq _] 7 [] (As _) (λ_=>?_);rcases rest with _|⟨c,r⟩
 · exfalso;have D:=dT h7;simp at J;omega
 have hcj:s[j]?=some c:=Sc O;have hcl:=hfv.cons;have hc46:46≤c.toNat∧c.toNat≤57:=hcl.elim (λh=>by rw[h.1];decide) (λh=>by omega);refine AW [.sq _,.sq _,.bk _,.sq _] 3 [] (As _) (λ_=>Ab C (DC (c:=c) C C Jv oM (by rw[Int.toNat_natCast];exact hcj))<|AP [.sq _,.sq _,.bk _,.sq _] 8 [] (As _) (λ_=>Ab C (RU un4 C C)<|AP [.sq _,.bk _,.sq _,.bk _,.sq _] 3 [] (As _) (λ_=>sP 66 C (λh8=>?_) (λh8=>?_))))
 ·
  exfalso;have D:=(beq_iff_eq).1 h8;omega
 refine AW [.bk _,.sq _,.bk _,.sq _] 5 [] (As _) (λ_=>Ab C (RU un4 C C)<|AP [.sq _,.bk _,.sq _,.bk _,.sq _] 3 [] (As _) (λ_=>sP 70 C (λD=>?_) (λD=>?_)));refine AW [.bk _,.sq _,.bk _,.sq _] 3 [] (As _) (λ_=>?_);have hc6:(c.toNat:Int)=46:=by simpa using D
 obtain⟨hc6,hdf,hrb⟩:c=46∧dot=false∧r=b:=hcl.elim id (λh=>by omega);replace hrb:=hrb.symm;subst hdf hrb hc6;have hsd2:sd=true:=hsd.resolve_right (λh=>by cases a with|nil=>exact K C|cons x a=>simp at h;have:=ha x (.head _);rw[← h.1] at this;revert this;decide);refine AW [.sq _,.sq _,.bk _,.sq _,.bk _,.sq _] 28 [] (As _) (aI ⟨oM,oM⟩<|λ_=>HH b.length (wQ 0 (S s) 2 (.int .u64 (m:Int)) 3 (iV 0) 4 (.bool neg) 5 (.bool false) 6 (.bool false) 7 (iV ((j+1:Nat):Int)) 8 (.bool false) 9 (.bool false) 10 (.int .u64 10) 11 (iV 19) 13 (.bool true) 14 (.bool sd) 15 (iV (nd:Int)) 16 (iV (nd:Int)) 17 (iV (nd:Int))) (by simp) lE ⟨j+1,m,nd,(nd:Int),true,sd,b,C,C,C,Kk O,by simp only[List.length_cons] at J;omega,⟨hb,Nat.le_refl _⟩,by rw[F,PL],(λ_=>by omega),oM,oM,oM,Q,.inl hsd2,G⟩);refine AW [.bk _,.sq _,.bk _,.sq _] 2 [] (As _) (λ_=>?_);have hn6:(c.toNat:Int)≠46:=by simpa using D
 obtain⟨hcd,hfr⟩:(48≤c.toNat∧c.toNat≤57)∧FV b dot r:=hcl.elim (λh=>absurd (by rw[h.1];rfl) hn6) id;refine AW [.sq _,.bk _,.sq _,.bk _,.sq _] 4 [] (As _) (λ_=>sL 79 C (λh10=>?_) (λh10=>?_));refine AP [.sq _,.bk _,.sq _,.bk _,.sq _] 3 [] (As _) (λ_=>Ab C (RU un4 C C)<|AP [.sq _,.bk _,.sq _,.bk _,.sq _] 3 [] (As _) (λ_=>sP 76 C (λh11=>?_) (λh11=>?_)));refine AW [.bk _,.sq _,.bk _,.sq _] 12 [] (As _) (λ_=>sL 86 C (λh12=>?_) (λh12=>?_));refine AP [.sq _,.sq _,.bk _,.sq _,.bk _,.sq _] 5 [] (As _) (λ_=>sP 89 C (λh13=>?_) (λh13=>?_));refine AW [.sq _,.bk _,.sq _,.bk _,.sq _] 19 [] (As _) (aI ⟨oM,oM⟩<|aI ⟨oM,oM⟩<|λ_=>?_);have hm0:m=0:=Q.1 (by have:=h13;simp at this;omega);have hc0:c.toNat=48:=by have:=h12;simp at this;omega
 refine HH r.length (wQ 0 (S s) 2 (.int .u64 (m:Int)) 3 (iV 0) 4 (.bool neg) 5 (.bool false) 6 (.bool false) 7 (iV ((j+1:Nat):Int)) 8 (.bool false) 9 (.bool false) 10 (.int .u64 10) 11 (iV 19) 13 (.bool dot) 14 (.bool true) 15 (iV (nd:Int)) 16 (iV (nd:Int)) 17 (iV (L-1))) (by simp) lE ⟨j+1,m,nd,L-1,dot,true,r,C,C,C,Kk O,by simp only[List.length_cons] at J;omega,hfr,by rw[F,IW hcd,NI,hc0,hm0],(λh=>by have U:=W h;simp only[List.length_cons] at U;omega),oM,oM,oM,Q,.inl C,G⟩;refine AW [.sq _,.bk _,.sq _,.bk _,.sq _] 4 [] (As _) (λ_=>?_)
 have hnz:¬(m*10+(c.toNat-48)=0):=by
  intro D;have hm9:m=0:=oM;have hn9:=Q.2 hm9;have h8:=h13;simp at h8;omega
 refine AW [.sq _,.bk _,.sq _,.bk _,.sq _] 14 [] (As _) (aI ⟨oM,oM⟩<|λ_=>sP 96 C (λh14=>?_) (λh14=>?_));refine AW [.sq _,.bk _,.sq _,.bk _,.sq _] 5 [] (As _) (λ_=>Ab C (QU ((m:Int)*10) C C (HR ⟨oM,oM⟩))<|AP [.sq _,.sq _,.bk _,.sq _,.bk _,.sq _] 7 [] (As _) (λ_=>Ab C (FZ ((c.toNat:Int)-48) C C (Xq ⟨oM,oM⟩))<|Ab C (DL (m:=(c.toNat:Int)-48) C Rx (HR ⟨oM,oM⟩))<|Ab C (Nx ((m:Int)*10+((c.toNat:Int)-48)) C C (HR ⟨oM,oM⟩))<|AP [.sq _,.sq _,.bk _,.sq _,.bk _,.sq _] 19 [] (As _) (aI ⟨oM,oM⟩<|aI ⟨oM,oM⟩<|λ_=>?_)));have hme:(m:Int)*10+((c.toNat:Int)-48)=((m*10+(c.toNat-48):Nat):Int):=oM;refine HH r.length (wQ 0 (S s) 2 (.int .u64 ((m*10+(c.toNat-48):Nat):Int)) 3 (iV 0) 4 (.bool neg) 5 (.bool false) 6 (.bool false) 7 (iV ((j+1:Nat):Int)) 8 (.bool false) 9 (.bool false) 10 (.int .u64 10) 11 (iV 19) 13 (.bool dot) 14 (.bool true) 15 (iV ((nd+1:Nat):Int)) 16 (iV ((nd+1:Nat):Int)) 17 (iV L)) (by simp) (lu16 C (hme▸rfl) C C C C C C C C C C C C C C) ⟨j+1,m*10+(c.toNat-48),nd+1,L,dot,true,r,C,C,C,Kk O,by simp only[List.length_cons] at J;omega,hfr,by rw[F,IW hcd,NI],(λh=>by have U:=W h;simp only[List.length_cons] at U;omega),oM,oM,oM,⟨λh=>by omega,λh=>?_⟩,.inl C,G⟩;exfalso;have hz:=hnz;omega
 ·
  exfalso;have D:=dF h14;omega
 refine AP [.sq _,.sq _,.bk _,.sq _,.bk _,.sq _] 9 [] (As _) (λ_=>?_)
 have hnz:¬(m*10+(c.toNat-48)=0):=by
  intro D;have hm9:m=0:=oM;have hn9:=Q.2 hm9;have h8:=h12;simp at h8;omega
 refine AW [.sq _,.bk _,.sq _,.bk _,.sq _] 14 [] (As _) (aI ⟨oM,oM⟩<|λ_=>sP 96 C (λh15=>?_) (λh15=>?_));refine AW [.sq _,.bk _,.sq _,.bk _,.sq _] 5 [] (As _) (λ_=>Ab C (QU ((m:Int)*10) C C (HR ⟨oM,oM⟩))<|AP [.sq _,.sq _,.bk _,.sq _,.bk _,.sq _] 7 [] (As _) (λ_=>Ab C (FZ ((c.toNat:Int)-48) C C (Xq ⟨oM,oM⟩))<|Ab C (DL (m:=(c.toNat:Int)-48) C Rx (HR ⟨oM,oM⟩))<|Ab C (Nx ((m:Int)*10+((c.toNat:Int)-48)) C C (HR ⟨oM,oM⟩))<|AP [.sq _,.sq _,.bk _,.sq _,.bk _,.sq _] 19 [] (As _) (aI ⟨oM,oM⟩<|aI ⟨oM,oM⟩<|λ_=>?_)));have hme:(m:Int)*10+((c.toNat:Int)-48)=((m*10+(c.toNat-48):Nat):Int):=oM;refine HH r.length (wQ 0 (S s) 2 (.int .u64 ((m*10+(c.toNat-48):Nat):Int)) 3 (iV 0) 4 (.bool neg) 5 (.bool false) 6 (.bool false) 7 (iV ((j+1:Nat):Int)) 8 (.bool false) 9 (.bool false) 10 (.int .u64 10) 11 (iV 19) 13 (.bool dot) 14 (.bool true) 15 (iV ((nd+1:Nat):Int)) 16 (iV ((nd+1:Nat):Int)) 17 (iV L)) (by simp) (lu16 C (hme▸rfl) C C C C C C C C C C C C C C) ⟨j+1,m*10+(c.toNat-48),nd+1,L,dot,true,r,C,C,C,Kk O,by simp only[List.length_cons] at J;omega,hfr,by rw[F,IW hcd,NI],(λh=>by have U:=W h;simp only[List.length_cons] at U;omega),oM,oM,oM,⟨λh=>by omega,λh=>?_⟩,.inl C,G⟩;exfalso;have hz:=hnz;omega
 ·
  exfalso;have D:=dF h15;omega
 ·
  exfalso;have D:=dF h11;omega
 ·
  exfalso;have D:=dF h10;omega
 refine AW [.sq _] 3 [] (As _) (λ_=>O0<|KG [.bk _,.sq _] 4 [] (As _) (λ_=>?_));have hrn:rest=[]:=by cases rest with|nil=>rfl|cons x r=>exfalso;have D:=dF h7;simp only[List.length_cons] at J;omega
 subst hrn;have hdt:=hfv.nil;subst hdt;have hst:sd=true:=hsd.resolve_right (λh=>by cases a <;> cases h);subst hst;have hdp2:=W C;simp only[List.length_nil] at hdp2 J;have hM:CT 0 (a++b)=m:=by rw[F];exact dJ m
 refine AW [.sq _,.sq _] 36 [] (As _) (λ_=>sL 154 C (λEb=>?_) (λEb=>?_))
 ·
  exfalso;have D:=dT Eb;omega
 refine AP [.sq _,.sq _] 26 [] (As _) (λ_=>sP 241 C (λh17=>?_) (λh17=>?_));exact AW [.sq _] 30 [] (As _) (aI ⟨oM,oM⟩<|λ_=>oG<|Bv (pV C (Al C) (Al C) (Al C) (Al C) (Al C) (Al C) (Al C))<|⟨by rw[if_neg (by rw[hM];have D:=h17;simp at D;omega),hM,show L-(nd:Int) = -(b.length:Int) by omega,show ((j:Nat):Int)=(s.length:Int) by omega],G⟩);exact AW [.sq _] 25 [] (As _) (λ_=>oG<|Bv (pV C (Al C) (Al C) (Al C) (Al C) (Al C) (Al C) (Al C))<|⟨by rw[if_pos (by rw[hM];have D:=h17;simp at D;omega),hM,show ((j:Nat):Int)=(s.length:Int) by omega],G⟩)
theorem rP:Extern.findNext Tryz.f185=none:=kR
theorem tM:Extern.find Tryz.f185=some Extern.MathFloatBits.float64frombits:=kR
theorem WJ:cvF prog 130 163=some .f64:=kR
theorem Wt(w:wO)(O:Gl w)(m n:Nat)(neg:Bool)(hm:m<1000000000000000)(hn:1≤n∧n≤14) :
  BF prog 186 #[.int .u64 (m:Int),iV (-(n:Int)),.bool neg] w λv w'=>v=.tuple #[.float .f64 ((FloatKind.f64.format.div (if neg then Op.negFloat .f64 (FloatKind.f64.nearest (m:Int)) else FloatKind.f64.nearest (m:Int)) (G5.getD n 0)).getD 0),.bool true]∧AY w w':=by
 obtain⟨pb,po,pn,pc,J,hp2,K⟩:=O.pow10;have F:=AY.refl w;refine enter func186 C C C<|AW [] 11 [] (As _) (λ_=>Ab C (Iu C ti156 (O.ext F).finfo)<|Ab C (XV 0 C C dC (by rw[show min (52:Int).toNat IntKind.u64.bits=52 by decide,SC,Nat.div_eq_of_lt (by omega)];rfl))<|AP [.sq _,.sq _] 9 [] (As _) (λ_=>Ab C (rA C WJ)<|AP [.sq _] 9 [] (As _) (λ_=>sP 15 C (λL=>?_) (λL=>?_))));refine AW [.sq _] 3 [] (As _) (λ_=>Ab C (nT C)<|AP [.sq _] 12 [] (As _) (λ_=>sP 18 C (λQ=>?_) (λQ=>?_)))
 ·
  exfalso;have h:=(beq_iff_eq).1 Q;omega
 refine AW [.bk _,.sq _] 6 [] (As _) (λ_=>sL 25 C (λU=>?_) (λU=>?_))
 ·
  exfalso;have h:=dT U;omega
 refine AP [.sq _,.bk _,.sq _] 12 [] (As _) (λ_=>sL 53 C (λW=>?_) (λW=>?_));refine AP [.sq _,.bk _,.sq _] 6 [] (As _) (λ_=>sP 50 C (λY=>?_) (λY=>?_));refine AW [.bk _,.sq _] 2 [] (As _) (λ_=>?_);obtain⟨r,D⟩:=SL neg m n oM;rw[L] at D;simp only[Bool.false_eq_true,if_true,if_false] at D;have G:=TR (show n<15 by omega);refine AW [.sq _,.bk _,.sq _] 2 [] (As _) (λ_=>Ab C (Iu C pR (EM J F))<|Ab C (A0 C)<|Ab C (LV (n:Int) C (by rw[Ks ⟨by omega,by omega⟩];omega))<|Ab C (Lh (i:=n) C C pY oM)<|Ab C (Iu C oR (by rw[Nat.mul_one];exact EM (K n _ G) F))<|Ab C (Xp C C D)<|AP [.sq _,.bk _,.sq _] 7 [] (As _) (λ_=>Bv (C7 C (Al C) (Al C))<|⟨?_,F⟩));rw[L];simp only[Bool.false_eq_true,if_true,if_false];rw[D];rfl
 ·
  exfalso;have h:=dF Y;omega
 ·
  exfalso;have h:=dF W;omega
 refine AW [.sq _] 12 [] (As _) (λ_=>sP 18 C (λZ=>?_) (λZ=>?_))
 ·
  exfalso;have h:=(beq_iff_eq).1 Z;omega
 refine AW [.bk _,.sq _] 6 [] (As _) (λ_=>sL 25 C (λh7=>?_) (λh7=>?_))
 ·
  exfalso;have h:=dT h7;omega
 refine AP [.sq _,.bk _,.sq _] 12 [] (As _) (λ_=>sL 53 C (λh8=>?_) (λh8=>?_));refine AP [.sq _,.bk _,.sq _] 6 [] (As _) (λ_=>sP 50 C (λh=>?_) (λh=>?_));refine AW [.bk _,.sq _] 2 [] (As _) (λ_=>?_);obtain⟨r,D⟩:=SL neg m n oM;rw[L] at D;simp only[Bool.false_eq_true,if_true,if_false] at D;have G:=TR (show n<15 by omega);refine AW [.sq _,.bk _,.sq _] 2 [] (As _) (λ_=>Ab C (Iu C pR (EM J F))<|Ab C (A0 C)<|Ab C (LV (n:Int) C (by rw[Ks ⟨by omega,by omega⟩];omega))<|Ab C (Lh (i:=n) C C pY oM)<|Ab C (Iu C oR (by rw[Nat.mul_one];exact EM (K n _ G) F))<|Ab C (Xp C C D)<|AP [.sq _,.bk _,.sq _] 7 [] (As _) (λ_=>Bv (C7 C (Al C) (Al C))<|⟨?_,F⟩));rw[L];simp only[Bool.false_eq_true,if_true,if_false];rw[D];rfl
 ·
  exfalso;have h:=dF h;omega
 ·
  exfalso;have h:=dF h8;omega
theorem Vg(w:wO)(neg:Bool) :
  BF prog 184 #[.bool neg] w λv w'=>v=.int .u64 (if neg then 1 else 0)∧AY w w':=by
 have D:=AY.refl w;refine enter func184 C C C<|AW [] 11 [] (As _) (λ_=>sP 3 C (λh=>?_) (λh=>?_));exact AW [.sq _] 8 [] (As _) (λ_=>Bv (AG C (Al C))<|⟨by rw[h];rfl,D⟩);exact AW [.sq _] 9 [] (As _) (λ_=>Bv (AG C (Al C))<|⟨by rw[h];rfl,D⟩)
theorem U1(w:wO)(s a b:lU)(neg:Bool)(G:H8 a)(h:a≠[])(D:s=if neg then 45::(a++46::b) else a++46::b) :
  BF prog 175 #[S s] w λv w'=>v=.tuple #[.float .f64 0,iV 0,.bool false]∧AY w w':=by
 cases a with
 |nil=>exact absurd C h
 |cons c r =>
  have F:=G c (.head _)
  cases neg with
  |true=>rw[D];exact T9 w c (r++46::b) F
  |false=>rw[D];exact T5 w c (r++46::b) F
theorem P6(w:wO)(s a b:lU)(neg:Bool)(G:H8 a)(J:H8 b)(h:a≠[])(D:b≠[])(F:a.length+b.length≤15)(K:s=if neg then 45::(a++46::b) else a++46::b) :
  BF prog 176 #[S s] w λv w'=>v=.tuple #[.int .u64 (CT 0 (a++b):Int),iV (if CT 0 (a++b)=0 then 0 else -(b.length:Int)),.bool neg,.bool false,.bool false,iV (s.length:Int),.bool true]∧AY w w':=by
 cases neg with
 |true=>exact NH w s a b G J h D F true K
 |false=>exact NH w s a b G J h D F false K
theorem UC(w:wO)(hG:Gl w)(s:lU)(a b:lU)(W:H8 a)(hb:H8 b)(D:a≠[])(G:b≠[])(K:a.length+b.length≤15)(neg:Bool)(hs:s=if neg then 45::(a++46::b) else a++46::b) :
  BF prog 166 #[S s] w λv w'=>v=.tuple #[.float .f64 (Nb neg a b),iV (s.length:Int),.nilIface]∧AY w w':=by
 have hal:1≤a.length:=List.length_pos_iff.2 D;have hbl:1≤b.length:=List.length_pos_iff.2 G;have Y:=Of (l:=a++b) (λx hx=>(List.mem_append.1 hx).elim (W x) (hb x)) (by rw[List.length_append];exact K);have h:=AY.refl w;refine enter func166 C C C<|AW [] 11 [] (As _) (λ_=>A5 C (Ay vH C C) (U1 _ s a b neg W D hs) ?_);rintro _ w1 ⟨rfl,L⟩;replace h:=h.trans L;have sz1:=L.size;refine AP [.sq _,.sq _] 20 [] (As _) (λ_=>A5 C (Ay tS C C) (P6 _ s a b neg W hb D G K hs) ?_);rintro _ w2 ⟨rfl,O⟩;replace h:=h.trans O;have sz2:=O.size;refine AP [.sq _] 39 [] (As _) (λ_=>Ab C (Iu C pJ (hG.ext h).optimize)<|AP [.sq _,.sq _] 6 [] (As _) (λ_=>A5 C (Ay uP C C) (Vg _ neg) ?_));rintro _ w3 ⟨rfl,Q⟩;replace h:=h.trans Q;have sz3:=Q.size;refine Ab C (JZ (if neg then 9223372036854775808 else 0) C C dC (by cases neg <;> decide))<|AP [.sq _,.sq _] 10 [] (As _) (λ_=>sP 69 C (λZ=>?_) (λZ=>?_));refine AW [.sq _,.sq _] 4 [] (As _) (λ_=>Ab C (aC (if neg then 9223372036854775808 else 0) C C (by cases neg <;> decide))<|Ab C (dW func185 C C rP tM C C C)<|AP [.sq _,.sq _,.sq _] 9 [] (As _) (λ_=>Bv (EB C (Al C) (Al C) (Al C)) ?_));have F:CT 0 (a++b)=0:=by have J:=(beq_iff_eq).1 Z;omega
 exact⟨by cases neg <;> simp[Nb,F],h⟩;refine AW [.sq _,.sq _] 10 [] (As _) (λ_=>sP 75 C (λh2=>?_) (λh2=>?_))
 ·
  exfalso;have J:=dT h2;revert J;split <;> omega
 refine AW [.sq _,.sq _] 10 [] (As _) (λ_=>sP 82 C (λh3=>?_) (λh3=>?_))
 ·
  exfalso;have J:=dT h3;revert J;split <;> omega
 refine AW [.sq _,.sq _] 16 [] (As _) (λ_=>?_);have F:¬CT 0 (a++b)=0:=by have J:=Z;simp at J;omega
 refine A5 C (Ay tO C C) ((show (if CT 0 (a++b)=0 then (0:Int) else -(b.length:Int)) = -(b.length:Int) from if_neg F)▸Wt _ (hG.ext h) (CT 0 (a++b)) b.length neg Y oM) ?_;rintro _ w4 ⟨rfl,U⟩;replace h:=h.trans U;have sz4:=U.size;exact AP [.sq _,.sq _,.sq _] 25 [] (As _) (λ_=>Bv (EB C (Al C) (Al C) (Al C))<|⟨by rw[Nb,if_neg F],h⟩)
theorem Jk(w:wO)(K:Gl w)(s:lU)(a b:lU)(L:H8 a)(O:H8 b)(h:a≠[])(D:b≠[])(J:a.length+b.length≤15)(neg:Bool)(Q:s=if neg then 45::(a++46::b) else a++46::b) :
  BF prog 147 #[S s,iV 64] w λv w'=>v=.tuple #[.float .f64 (Nb neg a b),iV (s.length:Int),.nilIface]∧AY w w':=by
 have G:=AY.refl w;refine enter func147 C C C<|AW [] 20 [] (As _) (λ_=>A5 C (Ay sJ C C) (UC _ (K.ext G) s a b L O h D J neg Q) ?_);rintro _ W ⟨rfl,F⟩;replace G:=G.trans F;have U:=F.size;exact AP [.sq _] 9 [] (As _) (λ_=>Bv (EB C (Al C) (Al C) (Al C))<|⟨C,G⟩)
theorem Mp(w:wO)(L:Gl w)(s:lU)(a b:lU)(O:H8 a)(Q:H8 b)(h:a≠[])(D:b≠[])(J:a.length+b.length≤15)(neg:Bool)(U:s=if neg then 45::(a++46::b) else a++46::b) :
  BF prog 122 #[S s,iV 64] w λv w'=>v=.tuple #[.float .f64 (Nb neg a b),.nilIface]∧AY w w':=by
 have G:=AY.refl w;refine enter func122 C C C<|AW [] 10 [] (As _) (λ_=>A5 C (Ay qY C C) (Jk _ (L.ext G) s a b O Q h D J neg U) ?_);rintro _ Y ⟨rfl,F⟩;replace G:=G.trans F;have W:=F.size;refine AP [.sq _] 18 [] (As _) (λ_=>sP 19 C (λK=>?_) (λK=>?_))
 ·
  exfalso;simp at K
 exact AW [.sq _] 12 [] (As _) (λ_=>Bv (C7 C (Al C) (Al C))<|⟨C,G⟩)
theorem Nj(w:wO)(K:Gl w)(s:lU)(a b:lU)(L:H8 a)(O:H8 b)(h:a≠[])(D:b≠[])(J:a.length+b.length≤15)(neg:Bool)(Q:s=if neg then 45::(a++46::b) else a++46::b) :
  BF prog 99 #[S s,iV 64] w λv w'=>v=.tuple #[.float .f64 (Nb neg a b),.nilIface]∧AY w w':=by
 have G:=AY.refl w;refine enter func99 C C C<|AW [] 10 [] (As _) (λ_=>A5 C (Ay rG C C) (Mp _ (K.ext G) s a b L O h D J neg Q) ?_);rintro _ W ⟨rfl,F⟩;replace G:=G.trans F;have U:=F.size;exact AP [.sq _] 11 [] (As _) (λ_=>Ab C (Ik Gw C)<|AP [.sq _,.sq _] 13 [] (As _) (λ_=>Bv (C7 C (Al C) (Al C))<|⟨C,G⟩))
theorem pfs:yY:=λw s a b F hlen G=>by
 obtain⟨J,K,L,O,Q,h⟩:=QO G;refine Nj w F s a b J K L O Q (PB s) ?_;rcases KN s with D|⟨r,rfl⟩
 · rw[D,if_neg (by decide),← h,IQ D]
 ·
  rw[IG] at h;rw[h];rfl
end Go.Proofs.YtgdndhedjlmagaaGreatDoor
namespace Go.SP
theorem Fo.len_snoc':∀(a:Fo)(t:A4)(k:Fo),(a.snoc t k).len=a.len+1
 |.nil,_,_=>rfl
 |.cons _ _ r,t,k=>by simp only[Fo.snoc,Fo.len,Fo.len_snoc' r t k]
theorem Fo.ok_snoc:∀(a:Fo)(t:A4)(k:Fo),a.ok→t.ok→k.ok→k.len≤100000→(a.snoc t k).ok
 |.nil,_,_,_,D,F,G=>⟨D,F,G,tQ⟩
 |.cons _ _ r,t,k,h,D,F,G=>⟨h.1,h.2.1,h.2.2.1,Fo.ok_snoc r t k h.2.2.2 D F G⟩
theorem Fo.deep_snoc:∀(a:Fo)(n:Nat)(t:A4)(k:Fo),a.deep (n+1)=true→k.deep n=true→(a.snoc t k).deep (n+1)=true
 |.nil,n,t,k,_,h=>by simp[Fo.snoc,Fo.deep,h]
 |.cons u l r,n,t,k,D,F=>by
   simp only[Fo.deep,Bool.and_eq_true] at D;simp only[Fo.snoc,Fo.deep,Bool.and_eq_true];exact⟨D.1,Fo.deep_snoc r n t k D.2 F⟩
def yI:Nat→List (A4×Fo)→Prop
 |_,[]=>True
 |i,(o,p)::s=>o.ok∧p.ok∧p.len≤i∧p.deep (201-s.length)=true∧yI i s
theorem yI.up:∀{i:Nat}{st:List (A4×Fo)},yI i st→yI (i+1) st
 |_,[],_=>trivial
 |_,_::_,⟨a,b,c,d,e⟩=>⟨a,b,Nat.le_succ_of_le c,d,e.up⟩
theorem Hl:∀(l:List A4)(i:Nat)(st:List (A4×Fo))(cur fo:Fo),(∀t∈l,t.ok)→i+l.length≤100000→st.length≤200→yI i st→cur.ok→cur.len≤i→cur.deep (201-st.length)=true →
   Ar l st cur=.ok fo→fo.ok∧fo.len≤i+l.length∧fo.deep 201=true
 | [],i,[],cur,fo,_,_,_,_,G,Q,D,h=>by
   simp only[Ar] at h
   cases h
   exact⟨G,by simpa using Q,by simpa using D⟩
 | [],i,(o,p)::s,cur,fo,_,_,_,_,_,_,_,h=>by
   unfold Ar at h
   split at h <;> cases h
 |k::l,i,st,cur,fo,U,Z,W,L,G,Q,D,h=>by
   have Y:k.ok:=U k (.head _);have F:∀t∈l,t.ok:=λt ht=>U t (.tail _ ht);simp only[List.length_cons] at Z;unfold Ar at h
   split at h
   · split at h
     · cases h
     · rename_i J
       have hne:st.length≠200:=by simpa using J
       have:=Hl l (i+1) ((k,cur)::st) .nil fo F oM (by simp only[List.length_cons];omega) ⟨Y,G,oM,D,L.up⟩ tQ (by simp[Fo.len]) (by simp[Fo.deep]) h;refine⟨this.1,?_,this.2.2⟩;have:=this.2.1;simp only[List.length_cons];omega
   · split at h
     · cases st with
       |nil=>cases h
       |cons op s =>
         obtain⟨o,p⟩:=op;simp only at h;obtain⟨ho,hp,hpl,K,O⟩:=L;simp only[List.length_cons] at W D;have e:201-s.length=(201-(s.length+1))+1:=oM;have:=Hl l (i+1) s (p.snoc o cur) fo F oM oM O.up (Fo.ok_snoc p o cur hp ho G oM) (by rw[Fo.len_snoc'];omega) (by rw[e] at K ⊢;exact Fo.deep_snoc p _ o cur K D) h;refine⟨this.1,?_,this.2.2⟩;have:=this.2.1;simp only[List.length_cons];omega
     · have e:201-st.length=(201-(st.length+1))+1:=oM
       have:=Hl l (i+1) st (cur.snoc k .nil) fo F oM W L.up (Fo.ok_snoc cur k .nil G Y tQ (by simp[Fo.len])) (by rw[Fo.len_snoc'];omega)
         (by rw[e] at D ⊢;exact Fo.deep_snoc cur _ k .nil D (by simp[Fo.deep])) h
       refine⟨this.1,?_,this.2.2⟩;have:=this.2.1;simp only[List.length_cons];omega
variable {fo:Fo}{toks:List A4}
theorem UK(D:∀t∈toks,t.ok)(J:toks.length≤100000)(h:Ar toks [] .nil=.ok fo):fo.all (GK 200)∧fo.len≤100000:=by
 obtain⟨F,K,G⟩:=Hl toks 0 [] .nil fo D oM (by simp) tQ tQ (by simp[Fo.len]) (by rfl) h;exact⟨OV 200 fo F G,oM⟩
end Go.SP
namespace Go.SP
open Go.SW Go.RowKit
variable {ot toks:List A4}{F:Nat}{p p1:Ps}{src:lU}
theorem Qt:∀(n:Nat)(p:Ps)(l:lU)(toks:List A4),Ee F n p l=.ok toks→toks.length≤n
 |n,p,[],toks,h=>by rw[Ip] at h;cases h;exact Nat.zero_le _
 |0,p,c::l,toks,h=>by cases h
 |n+1,p,c::l,toks,h=>by
   rw[Fg] at h
   split at h
   · cases h
   · rename_i t D G J
     split at h
     · cases h
     · rename_i l' K
       cases h
       have:=Qt n G D l' K;have:=Qy J;rw[List.length_append];omega
theorem OK{start:Ps}:∀(n:Nat)(p:Ps)(acc l tx r:lU)(D:Ps),DU start n p acc l=.ok (tx,r,D)→tx.length≤4096
 |0,_,_,_,_,_,_,h=>by cases h
 |n+1,p,acc,[],tx,r,D,h=>by cases h
 |n+1,p,acc,c::l,tx,r,D,h=>by
   rw[CI] at h
   split at h
   · split at h
     · cases h
     · rename_i hd
       cases h
       simp at hd;omega
   · split at h
     · cases h
     · split at h
       · exact OK n _ _ _ tx r D h
       · split at h
         · cases h
         · split at h
           · cases h
           · exact OK n _ _ _ tx r D h
theorem dK{w:lU}{k nm:Int}{tx:lU}(D:w≠[])(h:Gj w=some (k,nm,tx)):(k=5→tx≠[])∧tx.length≤100000∧k≠0∧k≠1:=by
 unfold Gj at h
 split at h
 · cases h;simp
 · split at h
   · cases h;simp[Po,QA]
   · split at h
     · cases h
     · rename_i G
       simp only[Bool.or_eq_true,not_or,decide_eq_true_eq] at G
       split at h
       · cases h;exact⟨by simp,oM,dC,dC⟩
       · split at h
         · cases h;exact⟨λ_=>D,oM,dC,dC⟩
         · cases h
theorem eU{l r:lU}(h:CN F p l=.ok (ot,r,p1)):∀t∈ot,t.ok:=by
 cases l with
 |nil=>cases h
 |cons c r =>
   rw[B3] at h
   split at h
   · cases h;simp
   · split at h
     · simp only[Except.ok.injEq,Prod.mk.injEq] at h;rw[← h.1];simp
     · split at h
       · cases h;simp[A4.ok]
       · split at h
         · cases h;simp[A4.ok]
         · split at h
           · split at h
             · cases h
             · rename_i tx G J D
               cases h
               have:=OK _ _ _ _ _ _ _ D;simp only[List.mem_singleton,forall_eq,A4.ok];exact⟨by simp,oM⟩
           · split at h
             · cases h
             · rename_i k nm tx hw
               simp only[Except.ok.injEq,Prod.mk.injEq] at h;rw[← h.1];simp only[List.mem_singleton,forall_eq,A4.ok];have:=dK (by simp) hw;exact⟨this.1,this.2.1⟩
theorem T8:∀(n:Nat)(p:Ps)(l:lU)(toks:List A4),Ee F n p l=.ok toks→∀t∈toks,t.ok
 |n,p,[],toks,h=>by rw[Ip] at h;cases h;simp
 |0,p,c::l,toks,h=>by cases h
 |n+1,p,c::l,toks,h=>by
   rw[Fg] at h
   split at h
   · cases h
   · rename_i t G J K
     split at h
     · cases h
     · rename_i l' L
       cases h
       intro t D;rcases List.mem_append.1 D with D|D
       · exact eU K t D
       · exact T8 n J G l' L t D
theorem Yb(h:IH src=.ok toks):toks.length≤100000∧∀t∈toks,t.ok:=by
 unfold IH at h
 split at h
 · cases h
 · rename_i G
   simp only[decide_eq_true_eq] at G
   split at h
   · cases h
   · rename_i l D
     cases h
     exact⟨by have:=Qt _ _ _ _ D;omega,T8 _ _ _ _ D⟩
theorem dN{e:Int×Int×Int}(h:IH src=.error e):(e.2.2 != 0)=true:=by
 unfold IH at h
 split at h
 · cases h;rfl
 · split at h <;> cases h
   rfl
end Go.SP
namespace Go.Proofs.YtgdndhedjlmagaaGreatDoor
open Go.SW Go.SP Go.RowKit Go.Proofs.Tryz
def CM(src:lU):Nd×Int×Int×Int:=Hp 200 (IH src)
abbrev xF(p:Nd×Int×Int×Int)(a:oA)(c:Nat):Value:=.tuple #[.slice a p.1.len c,.agg #[.int .i64 p.2.1,.int .i64 p.2.2.1],.int .i64 p.2.2.2]
variable {f:Fq}{w w':wO}
theorem S6.out{p:Nd×Int×Int×Int}{v:Value}(h:S6 p w f v w'):Ce (α:=oA×Nat) (λx=>xF p x.1 x.2) (λ_=>True) (λx=>[λw f=>Ba w f p.1 x.1 x.2]) w f v w' :=
 let ⟨f',a,c,D,F,G⟩:=h
 ⟨(a,c),f',F,tQ,D,G,tQ⟩
theorem S8(w:wO)(f:Fq)(L:Vl w f)(O:D3 w f)(src:lU) :
   BF prog 5 #[S src] w (Ce (α:=oA×Nat) (λx=>xF (CM src) x.1 x.2) (λ_=>True) (λx=>[λw f=>Ba w f (CM src).1 x.1 x.2]) w f):=by
 refine BF.mono (R:=S6 (CM src) w f) ?_ λ_ _ h=>S6.out h;unfold CM
 cases G:IH src with
 |error e =>
   exact Zb w f L O 199 src e (dN G) λJ D=>by
     have:=Q9 pfs J D src;rw[G] at this;exact this
 |ok F =>
   obtain⟨Q,U⟩:=Yb G
   exact fJ w f L O 199 src F Q (λfo K=>UK U Q K) λJ D=>by
     have:=Q9 pfs J D src;rw[G] at this;exact this
theorem Ej(w:wO)(f:Fq)(D:Vl w f)(n:Int) :
  BF prog 53 #[iV n] w (Ce (α:=Unit) (λ_=>tV (.var n) none 0) (λ_=>True) (λ_=>[]) w f):=by
 exact Df (X:=X0 w f) (H:=[]) (R:=[]) (B:=[]) (Fs:=[]) (f:=f) func53 C C C (CC D tQ tQ)<|Aa 13 [0] (λb1=>y<|λ_=>Bc (λw f h=>AG C (Ae C AZ h.k0 C)) (λw f h=>⟨(),f,C,tQ,h.exm,tQ⟩))
theorem MY(w:wO)(f:Fq)(U:Vl w f)(l:List Int)(a:oA)(c:Nat)(n:Int)(hl:l.length≤1000000)(W:Ci w f l a c) :
  BF prog 81 #[.slice a l.length c,iV n] w (Ce (α:=Unit) (λ_=>iV (ZH l n)) (λ_=>True) (λ_=>[]) w f):=by
 refine Df (X:=X0 w f) (H:=[]) (R:=[]) (B:=[]) (Fs:=[λw f=>Ci w f l a c]) (f:=f) func81 C C C (CC U ⟨W,tQ⟩ ⟨Ci.mono,tQ⟩)<|Aa 14 [] (λ_=>?_);refine HE (α:=Nat) (λi=>l.length-i) (λi=>i≤l.length∧(l.take i).contains n=false) (λi=>(E4 0 (.slice a l.length c) 1 (iV n) 7 (iV (l.length:Int)) 8 (iV (i:Int)))) (λi=>X0 w f) (λi=>[]) (λi=>[]) (λi=>[]) (λi=>[λw f=>Ci w f l a c]) (0) ⟨oM,C⟩ lE (λw f F=>F) ?_;rintro i ⟨hi,D⟩;refine Aa 6 [] (λ_=>Bb 9 C C (λJ=>?_) (λJ=>?_));refine Aa 12 [] (λ_=>?_);have K:i<l.length:=by have:=dT J;omega
 obtain⟨v0,L⟩:∃v,l[i]?=some v:=⟨_,List.getElem?_eq_getElem K⟩;refine sB 0 C L ?_;rintro⟨b,off⟩ rfl;refine Aa 9 [100,0] (aI oM<|y2<|λ_=>Bb 16 C C (λO=>?_) (λO=>?_));exact Aa 10 [] (λ_=>pM<|Aa 2 [] (λ_=>Bc (DE C C) (λw f F=>⟨(),f,(by rw[ZH,X7 D (by rw[L,show v0=n from (beq_iff_eq.1 O).symm])]),tQ,F.exm,tQ⟩)));refine Aa 8 [] (aI ⟨oM,oM⟩<|λ_=>?_);have G:(l.take (i+1)).contains n=false:=by rw[D6 L];have Y:¬n=v0:=(by simpa using O);have Z:n∉l.take i:=(by simpa using D);simp[Z,Y]
 exact DW (i+1) (show l.length-(i+1)<l.length-i by omega) ⟨oM,G⟩ lE (λw f F=>⟨_,F.less sR sR nE (λ_ h=>h)⟩);refine Aa 3 [] (λ_=>GP<|Aa 8 [] (λ_=>?_));have Q:l.length≤i:=by have:=dF J;omega
 rw[List.take_of_length_le Q] at D;exact Bc (DE C C) (λw f F=>⟨(),f,(by rw[ZH,NB D]),tQ,F.exm,tQ⟩)
theorem fE(m:Nat)(ih:OwnF prog 82 m)(w:wO)(f:Fq)(hv:Vl w f)(t:T1)(a:oA)(c:Nat)(hm:t.kids.size<m+1)(F:t.bnd)(hT:Ai w f t.kids a c) :
  BF prog 82 #[tV t a c] w (Ce (α:=oA×Nat) (λx=>tV t x.1 x.2) (λ_=>True) (λx=>[λw f=>Ai w f t.kids x.1 x.2]) w f):=by
 have hbl:=F.1;refine Df (X:=X0 w f) (H:=[]) (R:=[]) (B:=[]) (Fs:=[λw f=>Ai w f t.kids a c]) (f:=f) func82 C C C (CC hv ⟨hT,tQ⟩ ⟨Ai.mono,tQ⟩)<|Aa 15 [1] (λb1=>λb2=>y<|λ_=>Bb 9 C C (λW=>?_) (λW=>?_));refine Aa 15 [1,1,0] (y<|y<|y<|λ_=>?_);have Y:t.kids.len=0:=by have:=beq_iff_eq.1 W;omega
 exact Bc (λw f D=>AG C (Ae C AZ D.k0 C)) (λw f D=>⟨(none,0),f,(by show Value.agg _=Value.agg _;rw[Y]),tQ,D.exm,⟨by rw[Ty.len0 Y];exact Ai.nil _ _ _ _,tQ⟩⟩);refine Aa 8 [1] (y<|λ_=>mmk C C Dq C C C C (by have:=F.1;omega) (by have:=F.1;unfold maxLen;omega) λG=>Aa 13 [1] (y<|λ_=>?_));refine HE (α:=Nat×Ty×Ty×lV) (λx=>x.2.1.len) (λx=>x.1+x.2.1.len=t.kids.len∧x.2.2.1.len=x.1∧t.kids=x.2.2.1.app x.2.1∧x.2.1.bnd∧x.2.1.size≤t.kids.size) (λx=>(E6 1 (pB b1) 2 (pB b2) 3 (.slice (some ⟨G,0,none⟩) t.kids.len t.kids.len) 17 (.slice a t.kids.len c) 18 (iV (t.kids.len:Int)) 19 (iV (x.1:Int)))) (λx=>X0 w f) (λx=>[⟨b2,zT,68,true⟩,⟨b1,[iV t.op,iV t.num,S t.tx,.slice a t.kids.len c],68,true⟩]) (λx=>[⟨68,4,some ⟨G,0,none⟩,t.kids.len,t.kids.len,x.2.2.2++Gs x.2.1.len zT⟩]) (λx=>[]) (λx=>[λw f=>Cc w f a x.1 x.2.1,λw f=>Bn w f x.2.2.1 x.2.2.2]) (0,t.kids,.nil,[]) ⟨by simp,C,C,F.2,Nat.le_refl _⟩ lE (λw f D=>D.more (B':=[]) (F':=[λw f=>Cc w f a 0 t.kids,λw f=>Bn w f .nil []]) nE (AM.mem ⟨Ai.at D.f0,C,tQ⟩) (A2.mem ⟨Cc.mono,Bn.mono,tQ⟩) |>.less sR sR (λ_ h=>h) (mR [0,1])) ?_;rintro⟨i,r,L,xs⟩ ⟨Z,J,O,Q,hs⟩;dsimp only at Z J O Q hs ⊢;refine Aa 6 [] (λ_=>Bb 20 C C (λU=>?_) (λU=>?_));refine Aa 6 [] (λ_=>?_);have hil:i<t.kids.len:=by have:=dT U;omega
 obtain⟨t2,r,rfl⟩:=Ty.cases1 r oM;rw[T1.len_cons] at Z;refine ZJ 0 C ?_;rintro⟨eb,eo,ka,kc⟩ rfl;refine Aa 13 [100,0,0,0] (aI oM<|y2<|λb3=>y<|y<|λ_=>BA C C (eC Rj C C) (λw f D=>ih w f D.vl t2 ka kc (by have:=T1.size_cons t2 r;omega) (T1.bnd_cons.1 Q).1 D.f0) (λx=>⟨Ai.mono,tQ⟩) ?_);rintro⟨a2,c2⟩ -;refine Aa 1 [] (aI oM<|λ_=>KH (λw f D=>Bn.len D.f4) λK=>?_);rw[J] at K;exact mrs 0 ((xs++tC t2 a2 c2)++Gs r.len zT) C C C C AZ C C C (by simp only[Nat.zero_add,List.length_cons,List.length_nil,Int.toNat_natCast];omega) (by rw[Nat.zero_add,Int.toNat_natCast,← K,T1.len_cons,Gs];exact T4 _ _ _ _ C) C<|Aa 7 [] (aI ⟨oM,oM⟩<|λ_=>DW ((i+1,r,L.snoc t2,xs++tC t2 a2 c2)) (show r.len<(t2.cons r).len by rw[T1.len_cons];omega) ⟨show i+1+r.len=t.kids.len by omega,show (L.snoc t2).len=i+1 by rw[Ty.len_snoc,J],show t.kids=(L.snoc t2).app r by rw[O,Ty.snoc_app],(T1.bnd_cons.1 Q).2,show r.size≤t.kids.size by have:=T1.size_cons t2 r;omega⟩ lE (λw f D=>⟨_,(D.more (B':=[]) (F':=[λw f=>Bn w f (L.snoc t2) (xs++tC t2 a2 c2)]) nE (AM.mem ⟨Bn.snoc D.f0 D.f4,tQ⟩) (A2.mem ⟨Bn.mono,tQ⟩)).less (List.sublist_cons_self _ _) sR nE (mR [3,0])⟩));refine Aa 3 [] (λ_=>GP<|Aa 3 [] (λ_=>?_));obtain rfl:r=.nil:=Ty.len0 (by have:=dF U;omega);rw[Ty.app_nil] at O;exact pW 0 C C<|Aa 13 [1,1,0] (y<|y<|y<|λ_=>Bc (λw f D=>AG C (Ae C AZ D.k0 C)) (λw f D=>⟨(some ⟨G,0,none⟩,t.kids.len),f,C,tQ,D.exm,⟨O▸Bn.toF D.f1 (by have:=D.b0;simpa[Gs,Ty.len] using this) (Nat.le_refl _),tQ⟩⟩))
end Go.Proofs.YtgdndhedjlmagaaGreatDoor
namespace Go.SP
def Nd.bnd:Nd→Prop
 |.nil=>True
 |.cons _ _ _ _ _ kids rest=>kids.len≤200000∧kids.bnd∧rest.bnd
def N.bnd(a:N):Prop:=a.kids.len≤200000∧a.kids.bnd
variable {r:Nd}
theorem N.bnd_cons{a:N}(h:a.bnd)(D:r.bnd):(a.cons r).bnd:=⟨h.1,h.2,D⟩
theorem Nd.bnd_app:∀{x y:Nd},x.bnd→y.bnd→(x.app y).bnd
 |.nil,_,_,h=>h
 |.cons _ _ _ _ _ _ _,_,h,D=>⟨h.1,h.2.1,Nd.bnd_app h.2.2 D⟩
def A4.er(t:A4):A4:=⟨t.k,0,0,t.nm,t.tx⟩
def Fo.er:Fo→Fo
 |.nil=>.nil
 |.cons t k r=>.cons t.er k.er r.er
def Nd.er:Nd→Nd
 |.nil=>.nil
 |.cons op _ _ tx nm kids r=>.cons op 0 0 tx nm kids.er r.er
def N.er(a:N):N:=⟨a.op,0,0,a.tx,a.nm,a.kids.er⟩
def FG{α β:Type}(f:α→β):R α→R β
 |.error _=>.error (0,0)
 |.ok x=>.ok (f x)
theorem Fo.er_len:∀k:Fo,k.er.len=k.len
 |.nil=>rfl
 |.cons _ _ r=>by simp only[Fo.er,Fo.len,Fo.er_len r]
theorem N.er_cons(a:N)(r:Nd):(a.cons r).er=a.er.cons r.er:=rfl
theorem N.er_one(a:N):a.one.er=a.er.one:=rfl
theorem Nd.er_app:∀x y:Nd,(x.app y).er=x.er.app y.er
 |.nil,_=>rfl
 |.cons _ _ _ _ _ _ r,y=>by simp only[Nd.app,Nd.er,Nd.er_app r y]
theorem XE(t:A4)(op:Int)(tx:lU)(h:Nd):(Av t op tx h).er=Av t.er op tx h.er:=rfl
theorem Cq{α:Type}{β:Type}(f:α→β)(t:A4)(b:Bool)(x:R α)(y:R β)(h:b=true→y=FG f x):need t.er b y=FG f (need t b x):=by
 unfold need
 cases b with
 |true=>simp only[if_true];exact h C
 |false=>rfl
theorem Sw{f g:A4→Fo→R N}:∀(k:Fo),k.all (λt l=>f t.er l.er=FG N.er (g t l))→AA f k.er=FG Nd.er (AA g k)
 |.nil,_=>rfl
 |.cons t l r,h=>by
   simp only[Fo.er,AA];rw[h.1,Sw r h.2]
   cases g t l with
   |error e=>rfl
   |ok a =>
     cases AA g r with
     |error e=>rfl
     |ok b=>rfl
theorem Xv{p:A4→Fo→Prop}(h:∀t l,p t l):∀k:Fo,k.all p
 |.nil=>trivial
 |.cons t l r=>⟨h t l,Xv h r⟩
theorem TL(t:A4)(k:Fo):H2 t.er k.er=FG N.er (H2 t k):=by
 unfold H2;show Except.ok _=Except.ok _;have e:t.er.isWord [95]=t.isWord [95]:=rfl;rw[e]
 split <;> rfl
theorem Su:∀k:Fo,KE k.er=KE k
 |.nil=>rfl
 |.cons t _ r=>by simp only[Fo.er,KE,Su r];rfl
theorem NC:∀(x:Nd)(s:List lU),BS s x.er=BS s x
 |.nil,_=>rfl
 |.cons op _ _ tx _ kids rest,s=>by
   simp only[Nd.er,BS]
   split
   · rfl
   · rename_i s1 _
     rw[NC kids s1]
     split
     · rfl
     · rename_i s2 _
       exact NC rest s2
theorem CO{α β:Type}{f:α→β}{c:Bool}{a b:R β}{a' b':R α}(h:a=FG f a')(D:b=FG f b'):(if c then a else b)=FG f (if c then a' else b'):=by
 cases c with
 |true=>exact h
 |false=>exact D
theorem GG{f:A4→Fo→R N}(h:∀t k,f t.er k.er=FG N.er (f t k))(l:Fo):AA f l.er=FG Nd.er (AA f l):=Sw l (Xv h l)
theorem Ya:∀(n:Nat)(t:A4)(k:Fo),Dw n t.er k.er=FG N.er (Dw n t k)
 |0,_,_=>rfl
 |n+1,t,k=>by
   have D:=GG (Ya n);unfold Dw;refine CO C (CO C (CO C (CO (Cq N.er t _ _ _ λ_=>TL t k) (CO C ?_))))
   cases k with
   |nil=>rfl
   |cons h F l =>
     refine CO ?_ ?_
     · rw[Fo.er_len];exact Cq N.er t _ _ _ λ_=>by rw[D l];cases AA (Dw n) l <;> rfl
     · rw[Fo.er_len];exact Cq N.er t _ _ _ λ_=>by rw[D l];cases AA (Dw n) l <;> rfl
theorem PU(t:A4):∀x:Nd,CW t.er x.er=(CW t x).map N.er
 |.nil=>rfl
 |.cons op ln co tx nm kids .nil=>rfl
 |.cons op ln co tx nm kids (.cons a b c d e f r)=>by
   have h:=PU t (.cons a b c d e f r)
   have u:∀(t:A4)(op ln co:Int)(tx:lU)(nm:Int)(kids:Nd)(a b c:Int)(d:lU)(e:Int)(f r:Nd),CW t (.cons op ln co tx nm kids (.cons a b c d e f r))=(CW t (.cons a b c d e f r)).map λo=>Av t 32 [45,62] (.cons op ln co tx nm kids o.one):=by
     intro t op ln co tx nm kids a b c d e f r
     conv=>lhs;unfold CW
     cases CW t (.cons a b c d e f r) <;> rfl
   show CW t.er (.cons op 0 0 tx nm kids.er (Nd.cons a b c d e f r).er)=_;show CW t.er (.cons op 0 0 tx nm kids.er (.cons a 0 0 d e f.er r.er))=_;rw[u,u,show CW t.er (.cons a 0 0 d e f.er r.er)=_ from h]
   cases CW t (.cons a b c d e f r) <;> rfl
theorem QP:∀(n:Nat)(t:A4)(k:Fo),Dm n t.er k.er=FG N.er (Dm n t k)
 |0,_,_=>rfl
 |n+1,t,k=>by
   have D:=GG (QP n);unfold Dm;refine CO ?_ (CO C (Cq N.er t _ _ _ λ_=>C))
   cases k with
   |nil=>rfl
   |cons h F l =>
     refine CO ?_ ?_
     · rw[Fo.er_len]
       refine Cq N.er t _ _ _ λ_=>?_;rw[D l]
       cases AA (Dm n) l with
       |error e=>rfl
       |ok a =>
         simp only[FG];rw[PU]
         cases CW t a <;> rfl
     · rw[Fo.er_len];exact Cq N.er t _ _ _ λ_=>by rw[D l];cases AA (Dm n) l <;> rfl
theorem lS(n:Nat)(ex:A4→Fo→R N)(hex:∀t k,ex t.er k.er=FG N.er (ex t k))(t:A4)(k:Fo):Fb n ex t.er k.er=FG N.er (Fb n ex t k):=by
 unfold Fb
 cases k with
 |nil=>rfl
 |cons p h r =>
   cases r with
   |nil=>rfl
   |cons b bk r =>
     cases r with
     |cons _ _ _=>rfl
     |nil =>
       refine Cq N.er t _ _ _ λ_=>?_;rw[Ya n p h]
       cases Dw n p h with
       |error e=>rfl
       |ok q =>
         simp only[FG];rw[← N.er_one,NC];exact Cq N.er p _ _ _ λ_=>by rw[hex b bk];cases ex b bk <;> rfl
theorem X5(t:A4)(k:Fo):QL t.er k.er=QL t k:=by cases k <;> rfl
theorem aA(n:Nat)(ex:A4→Fo→R N)(hex:∀t k,ex t.er k.er=FG N.er (ex t k))(t:A4)(w:lU)(l:Fo):Bf n ex t.er w l.er=FG N.er (Bf n ex t w l):=by
 have F:=GG hex;have G:=GG (lS n ex hex);unfold Bf;refine CO ?_ (CO ?_ (CO ?_ (CO ?_ (CO ?_ (CO ?_ (CO ?_ (CO ?_ C)))))))
 · rcases l with _|⟨p,J,_|⟨b,bk,_|⟨_,_,_⟩⟩⟩
   · rfl
   · rfl
   · simp only[Fo.er]
     rw[Fo.er_len,Su];refine Cq N.er t _ _ _ λ_=>?_;rw[GG TL J]
     cases AA H2 J with
     |error e=>rfl
     |ok L =>
       simp only[FG];rw[hex b bk]
       cases ex b bk with
       |error e=>rfl
       |ok x =>
         show Except.ok _=Except.ok _;rw[XE,Nd.er_app];rfl
   · rfl
 · rcases l with _|⟨v,K,_|⟨e,h,_|⟨b,bk,_|⟨_,_,_⟩⟩⟩⟩
   · rfl
   · rfl
   · rfl
   · exact Cq N.er t _ _ _ λ_=>by
       rw[hex e h]
       cases ex e h with
       |error _=>rfl
       |ok x=>simp only[FG];rw[hex b bk];cases ex b bk <;> rfl
   · rfl
 · rcases l with _|⟨v,K,_|⟨e,h,_|⟨b,bk,_|⟨_,_,_⟩⟩⟩⟩
   · rfl
   · rfl
   · rfl
   · simp only[Fo.er]
     rw[X5]
     exact Cq N.er t _ _ _ λ_=>by
       rw[hex e h]
       cases ex e h with
       |error _=>rfl
       |ok x=>simp only[FG];rw[hex b bk];cases ex b bk <;> rfl
   · rfl
 · rw[Fo.er_len];exact Cq N.er t _ _ _ λ_=>by rw[F l];cases AA ex l <;> rfl
 · rw[Fo.er_len];exact Cq N.er t _ _ _ λ_=>by rw[F l];cases AA ex l <;> rfl
 · rw[Fo.er_len];exact Cq N.er t _ _ _ λ_=>by rw[F l];cases AA ex l <;> rfl
 · rw[Fo.er_len]
   refine Cq N.er t _ _ _ λ_=>?_
   cases l with
   |nil=>rfl
   |cons e h D =>
     simp only[Fo.er];rw[hex e h]
     cases ex e h with
     |error _=>rfl
     |ok x=>simp only[FG];rw[G D];cases AA (Fb n ex) D <;> rfl
 · rcases l with _|⟨e,h,_|⟨_,_,_⟩⟩
   · rfl
   · simp only[Fo.er];rw[hex e h];cases ex e h <;> rfl
   · rfl
theorem Kh:∀(n:Nat)(t:A4)(k:Fo),AO n t.er k.er=FG N.er (AO n t k)
 |0,_,_=>rfl
 |n+1,t,k=>by
   have D:=GG (Kh n);unfold AO;refine CO C (CO C (CO C (CO C (CO (Cq N.er t _ _ _ λ_=>C) ?_))))
   cases k with
   |nil=>rfl
   |cons h F l =>
     refine CO ?_ (CO (aA n _ (Kh n) t h.tx l) ?_)
     · rw[Fo.er_len];exact Cq N.er t _ _ _ λ_=>by rw[D l];cases AA (AO n) l <;> rfl
     · rw[Fo.er_len];exact Cq N.er t _ _ _ λ_=>by rw[D (.cons h F l)];cases AA (AO n) (.cons h F l) <;> rfl
theorem bZ(n:Nat)(t:A4)(k:Fo):FL n t.er k.er=FG N.er (FL n t k):=by
 unfold FL
 cases k with
 |nil=>rfl
 |cons h D l =>
   have e:decide (((Fo.cons h D l).er.len:Int)≤9)=decide (((Fo.cons h D l).len:Int)≤9):=by simp only[Fo.er_len]
   show need t.er (t.k==0&&(h.k==6&&decide (((Fo.cons h D l).er.len:Int)≤9))) _=_;rw[e];exact Cq N.er t _ _ _ λ_=>by rw[GG (QP n) l];cases AA (Dm n) l <;> rfl
theorem Qg:∀k:Fo,BO k.er=(BO k).map Nd.er
 |.nil=>rfl
 |.cons v _ r=>by
   simp only[Fo.er,BO,Qg r];rw[show v.er.isTypeVar=v.isTypeVar from C]
   split
   · cases BO r <;> rfl
   · rfl
theorem oF(n:Nat)(t:A4)(k:Fo):Cj n t.er k.er=FG N.er (Cj n t k):=by
 unfold Cj
 cases k with
 |nil=>rfl
 |cons h G l =>
   refine Cq N.er t _ _ _ λ_=>CO ?_ (CO ?_ (CO ?_ (CO ?_ (CO ?_ C))))
   · rcases l with _|⟨a,F,_|⟨b,bk,_|⟨c,D,r⟩⟩⟩
     · rfl
     · rfl
     · rfl
     · simp only[Fo.er]
       rw[Fo.er_len,Qg];refine Cq N.er t _ _ _ λ_=>?_
       cases BO bk with
       |none=>rfl
       |some vs =>
         simp only[Option.map_some];rw[show AA (FL n) (Fo.cons c.er D.er r.er)=_ from GG (bZ n) (.cons c D r)]
         cases AA (FL n) (.cons c D r) with
         |error e=>rfl
         |ok cs =>
           show Except.ok _=Except.ok _;rw[XE,Nd.er_app];rfl
   · rcases l with _|⟨a,F,_|⟨b,bk,_|⟨c,D,_|⟨_,_,_⟩⟩⟩⟩
     · rfl
     · rfl
     · rfl
     · exact Cq N.er t _ _ _ λ_=>by
         rw[QP n b bk]
         cases Dm n b bk with
         |error _=>rfl
         |ok x=>simp only[FG];rw[Kh n c D];cases AO n c D <;> rfl
     · rfl
   · rcases l with _|⟨a,F,_|⟨b,bk,_|⟨_,_,_⟩⟩⟩
     · rfl
     · rfl
     · exact Cq N.er t _ _ _ λ_=>by rw[Kh n b bk];cases AO n b bk <;> rfl
     · rfl
   · rcases l with _|⟨a,F,_|⟨b,bk,_|⟨_,_,_⟩⟩⟩
     · rfl
     · rfl
     · simp only[Fo.er]
       rw[X5];exact Cq N.er t _ _ _ λ_=>by rw[Kh n b bk];cases AO n b bk <;> rfl
     · rfl
   · rcases l with _|⟨b,bk,_|⟨_,_,_⟩⟩
     · rfl
     · simp only[Fo.er];rw[Kh n b bk];cases AO n b bk <;> rfl
     · rfl
theorem Fo.er_snoc:∀(a:Fo)(t:A4)(k:Fo),(a.snoc t k).er=a.er.snoc t.er k.er
 |.nil,_,_=>rfl
 |.cons _ _ r,t,k=>by simp only[Fo.snoc,Fo.er,Fo.er_snoc r t k]
def erS(st:List (A4×Fo)):List (A4×Fo):=st.map λx=>(x.1.er,x.2.er)
theorem Ki:∀(l:List A4)(st:List (A4×Fo))(cur:Fo),Ar (l.map A4.er) (erS st) cur.er=FG Fo.er (Ar l st cur)
 | [],[],cur=>rfl
 | [],(o,p)::s,cur=>by
   have D:∃e,Ar [] ((o,p)::s) cur=.error e:=by unfold Ar;split <;> exact⟨_,C⟩
   obtain⟨e,he⟩:=D;rw[he];simp only[List.map_nil,erS,List.map_cons,Ar]
   split
   · rename_i q f F
     have:q.ln=0∧q.co=0:=by
       have hm:=List.mem_of_getLast? F;rcases List.mem_cons.1 hm with h|h
       · cases h;exact⟨C,C⟩
       · obtain⟨x,_,G⟩:=List.mem_map.1 h
         cases G;exact⟨C,C⟩
     rw[this.1,this.2];rfl
   · rfl
 |k::l,st,cur=>by
   simp only[List.map_cons,Ar];refine CO ?_ (CO ?_ ?_)
   · rw[show (erS st).length=st.length from List.length_map _]
     exact CO C (Ki l ((k,cur)::st) .nil)
   · cases st with
     |nil=>rfl
     |cons op s =>
       obtain⟨o,p⟩:=op;have:=Ki l s (p.snoc o cur);rw[Fo.er_snoc] at this;exact this
   · have:=Ki l st (cur.snoc k .nil)
     rw[Fo.er_snoc] at this;exact this
def Hz(n:Nat)(l:List A4):R Nd:=match Ar l [] .nil with
 |.error e=>.error e
 |.ok fo=>AA (Cj n) fo
theorem eW(n:Nat)(l:List A4):Hz n (l.map A4.er)=FG Nd.er (Hz n l):=by
 unfold Hz;rw[show Ar (l.map A4.er) [] .nil=_ from Ki l [] .nil]
 cases Ar l [] .nil with
 |error e=>rfl
 |ok fo=>exact GG (oF n) fo
theorem Fo.app_nil:∀a:Fo,a.app .nil=a
 |.nil=>rfl
 |.cons _ _ r=>by simp only[Fo.app,Fo.app_nil r]
theorem Fo.app_snoc:∀(a b:Fo)(t:A4)(k:Fo),(a.app b).snoc t k=a.app (b.snoc t k)
 |.nil,_,_,_=>rfl
 |.cons _ _ r,b,t,k=>by simp only[Fo.app,Fo.snoc,Fo.app_snoc r b t k]
def fB(h:Fo):List (A4×Fo)→List (A4×Fo)
 | []=>[]
 | [(o,p)]=>[(o,h.app p)]
 |x::y::s=>x::fB h (y::s)
def mapA(h:Fo):R Fo→R Fo
 |.error e=>.error e
 |.ok fo=>.ok (h.app fo)
def eY(h:Fo)(st:List (A4×Fo))(cur:Fo):Fo:=match st with
 | []=>h.app cur
 |_=>cur
theorem RS(h:Fo):∀st,(fB h st).length=st.length
 | []=>rfl
 | [_]=>rfl
 |_::y::s=>by simp only[fB,List.length_cons,RS h (y::s)]
theorem Ti(D:Fo):∀st,((fB D st).getLast?).map (·.1)=(st.getLast?).map (·.1)
 | []=>rfl
 | [_]=>rfl
 |x::y::s=>by
   have F:=Ti D (y::s);have e:∀(z:A4×Fo)(u:List (A4×Fo)),u≠[]→(z::u).getLast?=u.getLast?:=λz u hu=>by cases u with|nil=>exact absurd C hu|cons _ _=>rfl
   simp only[fB];rw[e x (fB D (y::s)) (λh=>by have:=RS D (y::s);rw[h] at this;cases this),e x (y::s) (by simp)];exact F
theorem Hy(h:Fo):∀(l:List A4)(st:List (A4×Fo))(cur:Fo),Ar l (fB h st) (eY h st cur)=mapA h (Ar l st cur)
 | [],[],cur=>rfl
 | [],(o,p)::s,cur=>by
   have F:=Ti h ((o,p)::s);have G:∃J K s',fB h ((o,p)::s)=(J,K)::s':=by cases s with|nil=>exact⟨_,_,_,C⟩|cons y s=>exact⟨_,_,_,C⟩
   obtain⟨J,K,s',G⟩:=G;rw[G] at F ⊢;simp only[Ar]
   cases L:((o,p)::s).getLast? with
   |none=>simp at L
   |some q =>
     cases O:((J,K)::s').getLast? with
     |none=>simp at O
     |some Q =>
       rw[L,O] at F;obtain⟨a,b⟩:=q;obtain⟨a',b'⟩:=Q;simp at F;simp only[F];rfl
 |k::l,st,cur=>by
   simp only[Ar];rw[RS]
   split
   · split
     · rfl
     · have D:=Hy h l ((k,cur)::st) .nil
       have e:(k,eY h st cur)::fB h st=fB h ((k,cur)::st):=by cases st <;> rfl
       rw[e];exact D
   · split
     · cases st with
       |nil=>rfl
       |cons op s =>
         obtain⟨o,p⟩:=op
         cases s with
         |nil =>
           have D:=Hy h l [] (p.snoc o cur);show Ar l [] ((h.app p).snoc o cur)=_;rw[Fo.app_snoc];exact D
         |cons y s=>exact Hy h l (y::s) (p.snoc o cur)
     · have D:=Hy h l st (cur.snoc k .nil)
       have e:(eY h st cur).snoc k .nil=eY h st (cur.snoc k .nil):=by cases st with|nil=>exact Fo.app_snoc h cur k .nil|cons _ _=>rfl
       rw[e];exact D
def Ht(l:List A4):Int:=l.foldr (λt z=>z+(if t.k==0 then 1 else if t.k==1 then -1 else 0)) 0
end Go.SP
namespace Go.SP
open Go.SW Go.RowKit
def eE(x:Except Ps (UInt8×lU×Ps)):Option (UInt8×lU):=match x with
 |.error _=>none
 |.ok (b,r,_)=>some (b,r)
def sW(x:Except Ps (lU×lU×Ps)):Option (lU×lU):=match x with
 |.error _=>none
 |.ok (b,r,_)=>some (b,r)
def Mb(x:Except Ps (List A4×lU×Ps)):Option (List A4×lU):=match x with
 |.error _=>none
 |.ok (t,r,_)=>some (t.map A4.er,r)
def OD(x:Except Ps (List A4)):Option (List A4):=match x with
 |.error _=>none
 |.ok l=>some (l.map A4.er)
theorem sG(p h:Ps)(l:lU):eE (Fw p l)=eE (Fw h l):=by
 cases l with
 |nil=>rfl
 |cons c r =>
   simp only[Fw]
   split
   · rfl
   · split
     · rfl
     · split
       · rfl
       · split
         · rcases r with _|⟨a,_|⟨b,r⟩⟩
           · rfl
           · rfl
           · simp only[]
             split <;> rfl
         · rfl
variable {F n:Nat}{p:Ps}
theorem Pn{l r:lU}{b:UInt8}{q:Ps}(h:Fw p l=.ok (b,r,q)):r.length<l.length:=by
 cases l with
 |nil=>cases h
 |cons c l =>
   simp only[Fw] at h
   repeat' split at h
   all_goals first
     |(cases h;done)
     |(cases h;simp;done)
     |(cases h;simp;omega)
theorem Sb:∀(F:Nat)(l:lU)(F':Nat)(s s' p D:Ps)(acc:lU),l.length<F→l.length<F'→sW (DU s F p acc l)=sW (DU s' F' D acc l)
 |0,l,F',s,s',p,D,acc,h,G=>by cases h
 |F+1,[],F',s,s',p,D,acc,h,G=>by
   cases F' with
   |zero=>cases G
   |succ F'=>rfl
 |F+1,c::r,F',s,s',p,D,acc,h,G=>by
     cases F' with
     |zero=>cases G
     |succ F' =>
       simp only[List.length_cons] at h G;rw[CI,CI]
       split
       · split <;> rfl
       · split
         · rfl
         · split
           · exact Sb F r F' s s' _ _ _ oM oM
           · cases r with
             |nil=>rfl
             |cons d r =>
               have he:=sG (adv c p) (adv c D) (d::r)
               cases K:Fw (adv c p) (d::r) with
               |error e =>
                 rw[K] at he
                 cases J:Fw (adv c D) (d::r) with
                 |error L=>simp only[K,J];rfl
                 |ok x=>rw[J] at he;cases he
               |ok x =>
                 obtain⟨b,O,q⟩:=x;rw[K] at he
                 cases J:Fw (adv c D) (d::r) with
                 |error L=>rw[J] at he;cases he
                 |ok y =>
                   obtain⟨b',Q,W⟩:=y;rw[J] at he;simp only[eE,Option.some.injEq,Prod.mk.injEq] at he;obtain⟨rfl,rfl⟩:=he;have U:=Pn K;simp only[List.length_cons] at U h G;simp only[K,J];exact Sb F O F' s s' _ _ _ oM oM
theorem VT(p h:Ps):∀l,(GJ p l).1=(GJ h l).1
 | []=>rfl
 |c::r=>by
   simp only[GJ]
   split
   · exact VT _ _ r
   · rfl
theorem Xi:∀(l:lU)(p h:Ps),(Cr p l).1=(Cr h l).1∧(Cr p l).2.1=(Cr h l).2.1
 | [],_,_=>⟨C,C⟩
 |c::r,p,h=>by
   simp only[Cr]
   split
   · have D:=Xi r (adv c p) (adv c h)
     exact⟨by simp only[D.1],D.2⟩
   · exact⟨C,C⟩
theorem XJ{F':Nat}(p G:Ps)(l:lU)(h:l.length≤F)(L:l.length≤F'):Mb (CN F p l)=Mb (CN F' G l):=by
 cases l with
 |nil=>rfl
 |cons c r =>
   simp only[List.length_cons] at h L;rw[B3,B3]
   split
   · rfl
   · split
     · simp only[Mb,List.map_nil];rw[VT (adv c p) (adv c G)]
     · split
       · rfl
       · split
         · rfl
         · split
           · have D:=Sb F r F' p G (adv c p) (adv c G) [] oM oM
             cases K:DU p F (adv c p) [] r with
             |error e =>
               rw[K] at D
               cases J:DU G F' (adv c G) [] r with
               |error O=>rfl
               |ok x=>rw[J] at D;cases D
             |ok x =>
               obtain⟨tx,W,q⟩:=x;rw[K] at D
               cases J:DU G F' (adv c G) [] r with
               |error O=>rw[J] at D;cases D
               |ok y =>
                 obtain⟨Q,U,Y⟩:=y;rw[J] at D;simp only[sW,Option.some.injEq,Prod.mk.injEq] at D;obtain⟨rfl,rfl⟩:=D;rfl
           · have D:=Xi r (adv c p) (adv c G)
             rw[← D.1]
             cases Gj (c::(Cr (adv c p) r).1) with
             |none=>rfl
             |some x =>
               obtain⟨k,nm,tx⟩:=x;simp only[Mb,List.map_cons,List.map_nil];rw[D.2];rfl
theorem KI(p:Ps):∀l,(GJ p l).1.length≤l.length
 | []=>Nat.le_refl _
 |c::r=>by
   simp only[GJ]
   split
   · have:=KI (adv c p) r;simp only[List.length_cons];omega
   · exact Nat.le_refl _
theorem J1:∀(l:lU)(p:Ps),(Cr p l).2.1.length≤l.length
 | [],_=>Nat.le_refl _
 |c::r,p=>by
   simp only[Cr]
   split
   · have:=J1 r (adv c p);simp only[List.length_cons];omega
   · exact Nat.le_refl _
theorem IZ{s:Ps}:∀(F:Nat)(p:Ps)(acc l tx r:lU)(q:Ps),DU s F p acc l=.ok (tx,r,q)→r.length≤l.length
 |0,_,_,_,_,_,_,h=>by cases h
 |F+1,p,acc,[],tx,r,q,h=>by cases h
 |F+1,p,acc,c::l,tx,r,q,h=>by
   simp only[List.length_cons];rw[CI] at h
   split at h
   · split at h
     · cases h
     · cases h;omega
   · split at h
     · cases h
     · split at h
       · have:=IZ F _ _ _ tx r q h;omega
       · split at h
         · cases h
         · split at h
           · cases h
           · rename_i he
             have:=IZ F _ _ _ tx r q h;have:=Pn he;omega
theorem Ng{q:Ps}{l r:lU}{t:List A4}(h:CN F p l=.ok (t,r,q)):r.length<l.length:=by
 cases l with
 |nil=>cases h
 |cons c l =>
   simp only[List.length_cons];rw[B3] at h
   split at h
   · cases h;omega
   · split at h
     · simp only[Except.ok.injEq,Prod.mk.injEq] at h
       have:=KI (adv c p) l;rw[h.2] at this;simp only at this;omega
     · split at h
       · cases h;omega
       · split at h
         · cases h;omega
         · split at h
           · split at h
             · cases h
             · rename_i D
               cases h
               have:=IZ _ _ _ _ _ _ _ D;omega
           · split at h
             · cases h
             · simp only[Except.ok.injEq,Prod.mk.injEq] at h
               have:=J1 l (adv c p);rw[h.2] at this;simp only at this;omega
theorem WO:∀(n:Nat)(l:lU)(n' F F':Nat)(p J:Ps),l.length≤n→l.length≤n'→l.length≤F→l.length≤F'→OD (Ee F n p l)=OD (Ee F' n' J l)
 |n,[],n',F,F',p,J,_,_,_,_=>by rw[Ip,Ip]
 |0,c::r,_,_,_,_,_,h,_,_,_=>by simp at h
 |n+1,c::r,0,_,_,_,_,_,h,_,_=>by simp at h
 |n+1,c::r,n'+1,F,F',p,J,h1,h2,W,Y=>by
   rw[Fg,Fg];have D:=XJ (F:=F) (F':=F') p J (c::r) W Y;simp only[List.length_cons] at h1 h2 W Y
   cases O:CN F p (c::r) with
   |error e =>
     rw[O] at D
     cases K:CN F' J (c::r) with
     |error Q=>rfl
     |ok x=>rw[K] at D;cases D
   |ok x =>
     obtain⟨t,L,q⟩:=x;rw[O] at D
     cases K:CN F' J (c::r) with
     |error Q=>rw[K] at D;cases D
     |ok y =>
       obtain⟨t',r1',U⟩:=y;rw[K] at D;simp only[Mb,Option.some.injEq,Prod.mk.injEq] at D;obtain⟨ht,rfl⟩:=D;have hl:=Ng O;simp only[List.length_cons] at hl;have G:=WO n L n' F F' q U oM oM oM oM;simp only[]
       cases Z:Ee F n q L with
       |error e =>
         rw[Z] at G
         cases e4:Ee F' n' U L with
         |error Q=>rfl
         |ok x=>rw[e4] at G;cases G
       |ok x =>
         rw[Z] at G
         cases e4:Ee F' n' U L with
         |error Q=>rw[e4] at G;cases G
         |ok y =>
           rw[e4] at G;simp only[OD,Option.some.injEq] at G ⊢;rw[List.map_append,List.map_append,ht,G]
def DS(l:lU):Option (List A4):=OD (Ee (l.length+1) l.length (1,1) l)
def O7(l:lU):Option (List A4×lU):=Mb (CN l.length (1,1) l)
theorem vS{l:lU}(h:l.length≤n)(D:l.length≤F):OD (Ee F n p l)=DS l:=WO _ _ _ _ _ _ _ h (Nat.le_refl _) D oM
theorem rI{l:lU}(h:l.length≤F):Mb (CN F p l)=O7 l:=XJ _ _ _ h (Nat.le_refl _)
theorem IU:DS []=some []:=rfl
theorem Gr(c:UInt8)(r:lU):DS (c::r)=(match O7 (c::r) with
   |none=>none
   |some (t,J)=>(DS J).map (t ++ ·)):=by
 unfold DS;rw[List.length_cons,Fg];have D:=rI (F:=r.length+1+1) (p:=(1,1)) (l:=c::r) (by simp only[List.length_cons];omega)
 cases h:CN (r.length+1+1) (1,1) (c::r) with
 |error e=>rw[h] at D;rw[← D];rfl
 |ok x =>
   obtain⟨t,G,q⟩:=x;rw[h] at D;rw[← D];simp only[Mb];have K:=Ng h;simp only[List.length_cons] at K;have:=vS (F:=r.length+1+1) (n:=r.length) (p:=q) (l:=G) oM oM;unfold DS at this;rw[← this]
   cases Ee (r.length+1+1) r.length q G with
   |error e=>rfl
   |ok l=>simp[OD]
theorem ZU{q:Ps}{l r:lU}{x:UInt8}(t:lU)(h:Fw p l=.ok (x,r,q)):Fw p (l++t)=.ok (x,r++t,q):=by
 cases l with
 |nil=>cases h
 |cons c l =>
   simp only[Fw,List.cons_append] at h ⊢
   split at h
   · rename_i D;rw[if_pos D];cases h;rfl
   · rename_i D
     rw[if_neg D]
     split at h
     · rename_i G;rw[if_pos G];cases h;rfl
     · rename_i G
       rw[if_neg G]
       split at h
       · rename_i J;rw[if_pos J];cases h;rfl
       · rename_i J
         rw[if_neg J]
         split at h
         · rename_i K
           rw[if_pos K];rcases l with _|⟨a,_|⟨d,l⟩⟩
           · cases h
           · cases h
           · simp only[List.cons_append] at h ⊢
             split at h
             · rename_i L;rw[if_pos L];cases h;rfl
             · cases h
         · cases h
theorem OU{s:Ps}(t:lU):∀(F:Nat)(p:Ps)(acc l tx r:lU)(q:Ps),DU s F p acc l=.ok (tx,r,q)→DU s F p acc (l++t)=.ok (tx,r++t,q)
 |0,_,_,_,_,_,_,h=>by cases h
 |F+1,p,acc,[],tx,r,q,h=>by cases h
 |F+1,p,acc,c::l,tx,r,q,h=>by
   rw[List.cons_append];rw[CI] at h ⊢
   split at h
   · rename_i D
     rw[if_pos D]
     split at h
     · cases h
     · rename_i G;rw[if_neg G];cases h;rfl
   · rename_i D
     rw[if_neg D]
     split at h
     · cases h
     · rename_i G
       rw[if_neg G]
       split at h
       · rename_i J;rw[if_pos J];exact OU t F _ _ l tx r q h
       · rename_i J
         rw[if_neg J]
         cases l with
         |nil=>cases h
         |cons d l =>
           simp only[] at h
           split at h
           · cases h
           · rename_i he
             have:=ZU t he;rw[List.cons_append] at this ⊢;simp only[this];exact OU t F _ _ _ tx r q h
theorem PG:∀a b:List A4,Ht (a++b)=Ht a+Ht b
 | [],b=>by simp[Ht]
 |t::a,b=>by
   have h:=PG a b;have e:∀l,Ht (t::l)=Ht l+(if t.k==0 then 1 else if t.k==1 then -1 else 0):=λl=>C;rw[List.cons_append,e,e,h];omega
def pO(n:Nat)(l:lU):Option Nd:=match DS l with
 |none=>none
 |some t=>match Hz n t with
   |.error _=>none
   |.ok x=>some x
theorem Up(n:Nat)(src:lU)(G:src.length≤65536) :
   (∀x,pO n src=some x→(Hp n (IH src)).1.er=x∧(Hp n (IH src)).2.2.2=0)∧(pO n src=none→(Hp n (IH src)).2.2.2≠0):=by
 have D:IH src=(match Ee (src.length+1) src.length (1,1) src with
   |.error e=>.error (e.1,e.2,10)
   |.ok l=>.ok l):=by
   unfold IH;rw[if_neg (by simp;omega)];rfl
 rw[D];unfold pO DS
 cases Ee (src.length+1) src.length (1,1) src with
 |error e=>exact⟨λx h=>(by cases h),λ_=>by simp[Hp]⟩
 |ok l =>
   simp only[OD];rw[eW];unfold Hp Hz;simp only[]
   cases Ar l [] .nil with
   |error e=>exact⟨λx h=>(by cases h),λ_=>by simp⟩
   |ok fo =>
     simp only[]
     cases AA (Cj n) fo with
     |error e=>exact⟨λx h=>(by cases h),λ_=>by simp⟩
     |ok nds=>exact⟨λx h=>by cases h;exact⟨C,C⟩,λh=>by cases h⟩
def oU(U:Nat→Prop)(w:World)(a:Option Addr)(i:Nat)(r:Nd):Prop :=
 r=.nil∨∃b off l T,U b∧a=some ⟨b,off,none⟩∧AS w b l T∧Gd U w r (l.drop (off+i*6))
variable {co ln:Int}{i:Nat}{U:Nat→Prop}{a:Option Addr}{w':World}
theorem oU.ext{w:World}{r:Nd}(h:oU U w a i r)(D:AY w w'):oU U w' a i r :=
 h.imp id λ⟨b,off,l,T,hu,F,G,J⟩=>⟨b,off,l,T,hu,F,G.ext D,J.ext D⟩
theorem oU.head{w:World}{op nm:Int}{tx:lU}{kids r:Nd}(h:oU U w a i (.cons op ln co tx nm kids r)):∃b off l T ka kn kc l',U b∧a=some ⟨b,off,none⟩∧AS w b l T ∧
   l.drop (off+i*6)=.int .i64 op::.int .i64 ln::.int .i64 co::S tx::.int .i64 nm::.slice ka kn kc::l'∧HC U w ka kn kc kids:=by
 rcases h with h|⟨b,off,l,T,hu,D,F,ka,kn,kc,l',G,J,K⟩
 · cases h
 · exact⟨b,off,l,T,ka,kn,kc,l',hu,D,F,G,J⟩
theorem oU.next{w:World}{op nm:Int}{tx:lU}{kids r:Nd}(h:oU U w a i (.cons op ln co tx nm kids r)):oU U w a (i+1) r:=by
 rcases h with h|⟨b,off,l,T,hu,D,F,ka,kn,kc,l',G,K,J⟩
 · cases h
 · refine .inr ⟨b,off,l,T,hu,D,F,?_⟩
   have:l.drop (off+(i+1)*6)=l':=by
     rw[show off+(i+1)*6=(off+i*6)+6 by omega,← List.drop_drop,G];rfl
   rw[this];exact J
theorem Nd.er_len:∀x:Nd,x.er.len=x.len
 |.nil=>rfl
 |.cons _ _ _ _ _ _ r=>by simp only[Nd.er,Nd.len,Nd.er_len r]
theorem Ns{p:Nat→Prop}(D:p 0)(h:∀m,p m→p (m+1))(m:Nat):p m:=by
 induction m with
 |zero=>exact D
 |succ m F=>exact h m F
end Go.SP
namespace Go.SW
open Go.RowKit
variable {zl:List Value}{bytes cs:Nat}{a:Option Addr}{e:TypeId}
theorem mQ{P:Program}{σ:Bp}{w:World}{ty T:TypeId}{x y:Operand}{size:Nat}(D:P0 P T=some (e,size,bytes,zl)){b:Option Addr}{c k:Nat}
   (F:ev σ x=some (.slice a k c)) (G:ev σ y=some (.slice b 0 cs)) (J:k≤c):AR P σ (.call {callee:=.builtin .append,args:=#[x,y],argTypes:=#[T,T]}) ty w (.slice a k c) w:=by
 unfold P0 at D
 split at D
 · rename_i Y hu
   split at D
   · rename_i i K
     intro Z _ _ _ _ h
     have L:(Builtin.firstCells i.size 0 (.slice b 0 cs)).run P w=.ok #[] w:=by
       cases b with
       |none=>simp[Builtin.firstCells]
       |some q=>simp only[Builtin.firstCells,Nat.zero_mul];exact run_loadCells_list (P:=P) w q [] (λj v O=>by simp at O)
     have W:∀q:Addr,(storeCells q []).run P w=.ok () w:=λq=>by simp[storeCells]
     cases a with
     |none=>simp[execOp,resolve,invoke,builtin,h _ _ F,h _ _ G,Builtin.append_,run_underlying hu,sizeOf,typeInfo,K,Builtin.lenOf,J,L]
     |some q=>simp[execOp,resolve,invoke,builtin,h _ _ F,h _ _ G,Builtin.append_,run_underlying hu,sizeOf,typeInfo,K,Builtin.lenOf,J,L,W]
   · cases D
 · cases D
end Go.SW
namespace Go.SP
open Go.SW Go.RowKit
variable {U:Nat→Prop}{a q':Option Addr}{w':World}
theorem HC.lt{w:World}{n c:Nat}{x:Nd}(h:HC U w a n c x):HC (λb=>U b∧b<w.heap.size) w a n c x:=HC.imp h λ_ hu D=>⟨⟨hu,D⟩,C⟩
theorem HC.grow{w:World}{q:Option Addr}{n c:Nat}{x:Nd}(h:HC U w a n c x)(F:G1 q w q' w')(D:∀b,U b→some b≠rb q):HC U w' a n c x :=
 HC.imp h λb hu G=>⟨hu,F.block b G (D b hu)⟩
theorem G1.refl(a:Option Addr)(w:World):G1 a w a w:=⟨C,C,C,Nat.le_refl _,λ_ _ _=>C,.inl C⟩
section
variable{P:Program}{n:Nat}{Q:Bh}{σ:Bp}{ds:List Deferred}{w w0 w1:World}{ops:Array Oper}{ty T:TypeId}{AX:String}{af:Array Edge}{rest:List Oper}{d:Nat}{x y:Operand}
end
end Go.SP
namespace Go.Proofs.YtgdndhedjlmagaaGreatDoor
open Go.SW Go.SP Go.RowKit Go.Proofs.Tryz
theorem Ou(w:wO)(f:Fq)(D:Vl w f)(t:T1)(a:oA)(c:Nat)(F:t.bnd)(G:Ai w f t.kids a c) :
  BF prog 82 #[tV t a c] w (Ce (α:=oA×Nat) (λx=>tV t x.1 x.2) (λ_=>True) (λx=>[λw f=>Ai w f t.kids x.1 x.2]) w f) :=
 Ns (p:=OwnF prog 82) (λw f D t a c h=>by omega) (λm J w f D t a c K L O=>fE m J w f D t a c K L O) (t.kids.size+1) w f D t a c (Nat.lt_succ_self _) F G
theorem VQ(w:wO)(f:Fq)(U:Vl w f)(k:Ty)(a:oA)(c:Nat)(hl:k.len≤200000)(Q:Ai w f k a c) :
  BF prog 57 #[.slice a k.len c] w (Ce (α:=oA×Nat) (λx=>.slice x.1 k.len x.2) (λ_=>True) (λx=>[λw f=>Ai w f k x.1 x.2]) w f):=by
 refine Df (X:=X0 w f) (H:=[]) (R:=[]) (B:=[]) (Fs:=[λw f=>Ai w f k a c]) (f:=f) func57 C C C (CC U ⟨Q,tQ⟩ ⟨Ai.mono,tQ⟩)<|Aa 12 [] (λ_=>Bb 4 C C (λG=>?_) (λG=>?_));obtain rfl:a=none:=by cases a with|none=>rfl|some q=>cases G
 obtain rfl:k=.nil:=by rcases Q.2 with h|⟨_,_,h,_⟩;exact h;cases h
 exact Aa 8 [] (λ_=>Bc (DE C C) (λw f D=>⟨(none,0),f,C,tQ,D.exm,⟨Ai.nil _ _ _ _,tQ⟩⟩));refine Aa 5 [] (λ_=>mb0 C C U9 λJ=>Aa 1 [] (λ_=>?_));rcases Nat.eq_zero_or_pos k.len with F|F
 obtain rfl:=Ty.len0 F;exact FJ C C (λw f D=>mQ Dq C C (Nat.le_refl _))<|Aa 4 [] (λ_=>Bc (DE C C) (λw f D=>⟨(some ⟨J,0,none⟩,0),f,C,tQ,D.exm,⟨Ai.nil _ _ _ _,tQ⟩⟩));refine Nq (α:=Nat×Nat×lV) (λx=>a=some ⟨x.1,x.2.1,none⟩∧(∀v∈x.2.2,v.oneCell'=true)∧x.2.2.length=k.len*4) (λx=>[⟨x.1,x.2.1,x.2.2⟩]) (λx=>[λw f=>Bn w f k x.2.2]) (λw f D=>let ⟨x,G,W,Y⟩:=Ai.cells (k:=k) (a:=a) (c:=c) D.f0 F;⟨x,G,(oE W),AM.mem ⟨Y,tQ⟩⟩) (λx=>A2.mem ⟨Bn.mono,tQ⟩) ?_;rintro⟨eb,eo,xs⟩ ⟨rfl,K,L⟩;exact Z6 0 0 C C Dq C C C C C C L K F (λ_ _=>C) oM oM λa2 c2=>Aa 4 [] (λ_=>Bc (DE C C) (λw f D=>let ⟨f2,O,Z⟩:=OQ D D.f0 F;⟨(a2,c2),f2,by simp only[Nat.zero_add],tQ,O.exm,⟨Z,tQ⟩⟩))
theorem Dc(w:wO)(f:Fq)(D:Vl w f)(tx:lU)(k:Ty)(a:oA)(c:Nat)(F:k.len≤200000)(G:Ai w f k a c) :
  BF prog 35 #[S tx,.slice a k.len c] w (Ce (α:=oA×Nat) (λx=>tV (.con tx k) x.1 x.2) (λ_=>True) (λx=>[λw f=>Ai w f k x.1 x.2]) w f):=by
 refine Df (X:=X0 w f) (H:=[]) (R:=[]) (B:=[]) (Fs:=[λw f=>Ai w f k a c]) (f:=f) func35 C C C (CC D ⟨G,tQ⟩ ⟨Ai.mono,tQ⟩)<|Aa 9 [] (λb1=>λ_=>BA C C (eC bL C C) (λw f h=>VQ w f h.vl k a c F h.f0) (λx=>⟨Ai.mono,tQ⟩) ?_);rintro⟨a2,c2⟩ -;exact Aa 5 [0] (y<|λ_=>Bc (λw f h=>AG C (Ae C AZ h.k0 C)) (λw f h=>⟨(a2,c2),f,C,tQ,h.exm,⟨h.f0,tQ⟩⟩))
theorem Ep(w:wO)(f:Fq)(hv:Vl w f)(sb mb:Nat)(s:Bk)(fr pr:Int)(hS:BP 140 sb mb s fr pr w f)(hw:Jl s)(t:T1)(a:oA)(c:Nat)(hb:t.bnd)(hT:Ai w f t.kids a c) :
  BF prog 109 #[pB sb,tV t a c] w (Ce (α:=oA×Nat) (λx=>tV (Af s t) x.1 x.2) (λ_=>True) (λx=>[λw f=>Ai w f (Af s t).kids x.1 x.2]) w f):=by
 obtain⟨G,es,J,W⟩:=hS;have U:=Gu.dis W hw;have O:=G.lt;have Q:=J.lt;refine Df (X:=X0 w f) (H:=[]) (R:=[]) (B:=[]) (Fs:=[λw f=>Ai w f t.kids a c]) (f:=f) func109 C C C (CC hv ⟨hT,tQ⟩ ⟨Ai.mono,tQ⟩)<|Aa 8 [] (λb1=>λb2=>λ_=>?_);refine HE (α:=T1×oA×Nat) (λx=>Ei s x.1) (λx=>Af s t=Af s x.1∧x.1.bnd) (λx=>(E3 0 (pB sb) 3 (pB b1) 4 (pB b2))) (λx=>X0 w f) (λx=>[⟨b2,zT,68,true⟩,⟨b1,tC x.1 x.2.1 x.2.2,68,true⟩]) (λx=>[]) (λx=>[]) (λx=>[λw f=>Ai w f x.1.kids x.2.1 x.2.2]) (t,a,c) ⟨C,hb⟩ lE (λw f L=>L) ?_;rintro⟨u,ua,uc⟩ ⟨hh,hub⟩;dsimp only at hh hub ⊢;refine Aa 8 [1] (y<|λ_=>Bb 9 C C (λh1=>?_) (λh1=>?_));refine Aa 5 [] (λ_=>?_);obtain⟨n,rfl⟩:=EJ h1
 cases hl:A8 s n with
 |none =>
  have Y:=(Gu.look W n).1 hl;refine MT (λw=>AS w sb [.map (some mb),iV fr,iV pr] 140∧Cz Fu w mb es) (λw2 f2 _ D=>⟨(D.stp.block sb O (λh=>h)).trans G,J.heap (D.stp.block mb Q (λh=>h))⟩) [0,1] Aq (rd [0,1,2,3,4,5,6,7,8,9] (.br 10 (.br 11 (.rd 12 .fin) .fin) .fin)) C kR kR kR (λ_ _ _ _ _ h=>h)<|A9 3 [] (λ_=>HX C C C (λw Z=>Am C VJ Z.2.2.1 C)<|A9 2 [1] (y<|λ_=>HX C C C (λw Z=>KP (K:=Fu) (a:=n) C C V1 P8 OA Z.2.2.2 U Y)<|A9 3 [] (λ_=>Ah C ?_ Aj)));refine Aa 2 [] (λb3=>λ_=>Bl [1,2] (λw2 f2 _ D=>⟨(D.stp.block sb O (λh=>h)).trans G,J.heap (D.stp.block mb Q (λh=>h))⟩) C (λ_ h=>h)<|Ah C ?_ Aj);refine Aa 2 [0] (y<|λ_=>Bl [1,2] (λw2 f2 _ D=>⟨(D.stp.block sb O (λh=>h)).trans G,J.heap (D.stp.block mb Q (λh=>h))⟩) C (λ_ h=>h)<|A9 1 [] (λ_=>Bx<|Aa 12 [] (λ_=>GP<|Aa 9 [2,1] (y<|y<|λ_=>?_))));have F:Af s t=.var n:=by rw[hh,AK hl]
  exact Bc (λw f L=>AG C (Ae C AZ L.k1 C)) (λw f L=>⟨(ua,uc),f,(by show _=tV (Af s t) ua uc;rw[F]),tQ,L.exm,⟨by show Ai w f (Af s t).kids ua uc;rw[F];exact L.f0,tQ⟩⟩)
 |some t2 =>
  refine Nq (α:=oA×Nat) (λx=>FF es n=some (tV t2 x.1 x.2)) (λx=>[]) (λx=>[λw f=>Ai w f t2.kids x.1 x.2]) (λw f L=>let ⟨a2,c2,h1,h2⟩:=(Gu.look W n).2 t2 hl;⟨(a2,c2),h1,nE,AM.mem ⟨Ai.mono _ _ _ _ h2 L.ent,tQ⟩⟩) (λx=>A2.mem ⟨Ai.mono,tQ⟩) ?_;rintro⟨a2,c2⟩ Y;refine MT (λw=>AS w sb [.map (some mb),iV fr,iV pr] 140∧Cz Fu w mb es) (λw2 f2 _ D=>⟨(D.stp.block sb O (λh=>h)).trans G,J.heap (D.stp.block mb Q (λh=>h))⟩) [0,1] Aq (rd [0,1,2,3,4,5,6,7,8,9] (.br 10 (.br 11 (.rd 12 .fin) .fin) .fin)) C kR kR kR (λ_ _ _ _ _ h=>h)<|A9 3 [] (λ_=>HX C C C (λw Z=>Am C VJ Z.2.2.1 C)<|A9 2 [1] (y<|λ_=>HX C C C (λw Z=>KT (K:=Fu) (a:=n) C C V1 P8 OA Z.2.2.2 U Y)<|A9 3 [] (λ_=>Ah C ?_ Aj)));refine Aa 2 [] (λb4=>λ_=>Bl [1,2] (λw2 f2 _ D=>⟨(D.stp.block sb O (λh=>h)).trans G,J.heap (D.stp.block mb Q (λh=>h))⟩) C (λ_ h=>h)<|Ah C ?_ Aj);exact Aa 2 [0] (y<|λ_=>Bl [1,2] (λw2 f2 _ D=>⟨(D.stp.block sb O (λh=>h)).trans G,J.heap (D.stp.block mb Q (λh=>h))⟩) C (λ_ h=>h)<|A9 1 [] (λ_=>Bx<|Aa 16 [0,2] (y<|y<|λ_=>DW ((t2,a2,c2)) (nF hw hl) ⟨by rw[hh,Wg hw hl],Ol hw hl⟩ lE (λw f L=>⟨_,L.less (List.sublist_cons_self _ _) sR nE (mR [0])⟩))))
 refine Aa 3 [] (λ_=>GP<|Aa 9 [1,0] (y<|y<|λ_=>?_));obtain⟨tx,k,rfl⟩:=FY h1;have F:Af s t=.con tx k:=by rw[hh,Fj]
 exact Bc (λw f L=>AG C (Ae C AZ L.k0 C)) (λw f L=>⟨(ua,uc),f,(by show _=tV (Af s t) ua uc;rw[F]),tQ,L.exm,⟨by show Ai w f (Af s t).kids ua uc;rw[F];exact L.f0,tQ⟩⟩)
theorem SO(w:wO)(f:Fq)(F:Vl w f)(h:Nat)(n:Int)(K:0≤n∧n≤100000)(G:K7 h n w f)(J:f h=0)(t:T1)(a:oA)(c:Nat) :
  BF prog 118 #[tV t a c,pB h] w (Fv (α:=Unit) (λ_=>.bool (decide (n+1≤1000))) (λ_=>True) (λb=>b=h) (λ_=>K7 h (n+1)) (λ_=>[]) w f):=by
 exact Df (X:=⟨λb=>b=h,λ_=>False,λ_ _=>True,w,f⟩) (H:=[⟨h,[iV n],3,false⟩]) (R:=[]) (B:=[]) (Fs:=[]) (f:=f) func118 C C C (Aa5 F G J tQ tQ)<|Aa 21 [1,1,1] (λb1=>y<|aI ⟨oM,oM⟩<|y<|y<|λ_=>Bc (DE C C) (λw f D=>⟨(),f,C,tQ,D.exm,D.blk _ sT,tQ⟩))
theorem Wk(k:Nat)(ih:∀j,j<k→VisF prog 117 140 118 j)(w:wO)(f:Fq)(hv:Vl w f)(sb mb:Nat)(s:Bk)(fr pr:Int)(G:Nat)(hS:BP 140 sb mb s fr pr w f)(hw:Jl s)(U:sb≠G)(W:mb≠G)(hf:f G=0)(hC:K7 G (1000-(k:Int)) w f)(hk:k≤1000)(t:T1)(a:oA)(c:Nat)(hb:t.bnd)(hT:Ai w f t.kids a c) :
  BF prog 117 #[pB sb,tV t a c,.func (.func 118) #[] #[pB G]] w (Fv (α:=Int) (λ_=>.bool (B9 s k t.one).isSome) (λx=>∀j,B9 s k t.one=some j→x=1000-(j:Int)) (λb=>b=G) (λx=>K7 G x) (λ_=>[]) w f):=by
 have hkb:=(CB hw hb).1;refine Df (X:=⟨λb=>b=G,λb=>b=G,K7 G (1000-(k:Int)),w,f⟩) (H:=[]) (R:=[]) (B:=[]) (Fs:=[λw f=>Ai w f t.kids a c]) (f:=f) func117 C C C (cI (M:=λb=>b=G) (I:=K7 G (1000-(k:Int))) hv hC (K7.stab C) (λb hb=>by cases hb;exact⟨AS.lt hC,hf⟩) ⟨hT,tQ⟩ ⟨Ai.mono,tQ⟩)<|Aa 10 [0] (λb1=>y<|λ_=>BA C C (eC GN C C) (λw f F=>Ep w f F.vl sb mb s fr pr (BP.keep hS F.exm F.ent U W) hw t a c hb F.f0) (λx=>⟨Ai.mono,tQ⟩) ?_);rintro⟨Y,hc⟩ -;refine Aa 8 [0,0] (y<|y<|λ_=>P9 (XX:=λ_ _=>False) C C (λ_=>W4 (caps:=[pB G]) mO C C) (λw f F=>(SO w f F.vl G (1000-(k:Int)) oM F.res (F.mi G C).2.1 (Af s t) Y hc).retP) (λ_=>K7.stab C) (λ_=>trivial) (λ_ _ _ _ _ h=>h.elim) ?_);rintro⟨⟩ -;refine Aa 3 [] (λ_=>Bb 15 C C (λZ=>?_) (λZ=>?_));replace Z:=FM Z;refine Aa 8 [] (λ_=>?_);obtain rfl:k=0:=by have:=dF Z;omega
 have D:=LJ s t;exact Bc (DE C C) (λw f F=>⟨_,f,(by rw[D];rfl),(λj h=>by rw[D] at h;cases h),F.exm,F.res,tQ⟩);replace Z:=Gt Z;refine Aa 5 [] (λ_=>?_);obtain⟨k2,rfl⟩:∃k2,k=k2+1:=⟨k-1,by have:=dT Z;omega⟩;refine Aa 6 [0] (y<|λ_=>Bb 18 C C (λh2=>?_) (λh2=>?_));refine Aa 10 [0] (y<|λ_=>?_);refine HE (α:=Nat×Ty×Nat) (λx=>x.2.1.len) (λx=>x.1+x.2.1.len=(Af s t).kids.len∧B9 s k2 (Af s t).kids=B9 s x.2.2 x.2.1∧x.2.2≤k2∧x.2.1.bnd) (λx=>(E6 0 (pB sb) 2 (.func (.func 118) #[] #[pB G]) 4 (pB b1) 20 (.slice Y (Af s t).kids.len hc) 21 (iV ((Af s t).kids.len:Int)) 22 (iV (x.1:Int)))) (λx=>⟨λb=>b=G,λb=>b=G,K7 G (1000-(x.2.2:Int)),w,f⟩) (λx=>[⟨b1,tC (Af s t) Y hc,68,true⟩]) (λx=>[]) (λx=>[]) (λx=>[λw f=>Cc w f Y x.1 x.2.1]) (0,(Af s t).kids,k2) ⟨by simp,C,Nat.le_refl _,(CB hw hb).2⟩ lE (λw f F=>(by have L:=F.more (B':=[]) (F':=[λw f=>Cc w f Y 0 (Af s t).kids]) nE (AM.mem ⟨Ai.at F.f0,tQ⟩) (A2.mem ⟨Cc.mono,tQ⟩) |>.less (H':=[⟨b1,tC (Af s t) Y hc,68,true⟩]) (R':=[]) (B':=[]) (F':=[λw f=>Cc w f Y 0 (Af s t).kids]) sR sR nE (mR [0]);rw[show (1000-((k2+1:Nat):Int))+1=1000-(k2:Int) by omega] at L;exact L)) ?_;rintro⟨i,r,j⟩ ⟨hi,K,hjk,hrb⟩;dsimp only at hi K hjk hrb ⊢;refine Aa 6 [] (λ_=>Bb 23 C C (λh3=>?_) (λh3=>?_));refine Aa 6 [] (λ_=>?_);have hil:i<(Af s t).kids.len:=by have:=dT h3;omega
 obtain⟨t2,r,rfl⟩:=Ty.cases1 r oM;rw[T1.len_cons] at hi;refine ZJ 0 C ?_;rintro⟨eb,eo,ka,kc⟩ rfl;refine Aa 12 [100,0,0,0] (aI oM<|y2<|λb2=>y<|y<|λ_=>P9 (XX:=λ_ _=>False) C C (eC N2 C C) (λw f F=>(ih j oM w f F.vl sb mb s fr pr G (BP.keep hS F.exm F.ent U W) hw U W (F.mi G C).2.1 F.res oM t2 ka kc (T1.bnd_cons.1 hrb).1 F.f0).retP) (λ_=>K7.stab C) (λ_=>trivial) (λ_ _ _ _ _ h=>h.elim) ?_);rintro cx hcx;refine Aa 3 [] (λ_=>Bb 30 C C (λQ=>?_) (λQ=>?_));replace Q:=FM Q;have O:B9 s j t2.one=none:=by cases hx:B9 s j t2.one with|none=>rfl|some q=>rw[hx] at Q;cases Q
 refine Aa 9 [] (λ_=>pM<|Aa 2 [] (λ_=>?_));have J:=Kn s k2 t;have D:B9 s (k2+1) t.one=none:=by rw[J,K,Jt,O];rfl
 exact Bc (DE C C) (λw f F=>⟨_,f,(by rw[D];rfl),(λj h=>by rw[D] at h;cases h),F.exm,F.res,tQ⟩);replace Q:=Gt Q;obtain⟨j2,O⟩:=Option.isSome_iff_exists.1 Q;exact Aa 8 [] (aI ⟨oM,oM⟩<|λ_=>DW ((i+1,r,j2)) (show r.len<(t2.cons r).len by rw[T1.len_cons];omega) ⟨show i+1+r.len=(Af s t).kids.len by omega,show B9 s k2 (Af s t).kids=B9 s j2 r by rw[K,Jt,O];rfl,show j2≤k2 by have:=EH s j t2.one j2 O;omega,(T1.bnd_cons.1 hrb).2⟩ lE (λw f F=>⟨_,by have L:=F.less (H':=[⟨b1,tC (Af s t) (some ⟨eb,eo,none⟩) hc,68,true⟩]) (R':=[]) (B':=[]) (F':=[λw f=>Cc w f (some ⟨eb,eo,none⟩) (i+1) r]) (List.sublist_cons_self _ _) sR nE (mR [1]);rw[hcx j2 O] at L;exact L⟩));refine Aa 3 [] (λ_=>GP<|Aa 8 [] (λ_=>?_));have J:=Kn s k2 t;obtain rfl:r=.nil:=Ty.len0 (by have:=dF h3;omega);have D:B9 s (k2+1) t.one=some j:=by rw[J,K];cases j <;> rfl
 exact Bc (DE C C) (λw f F=>⟨_,f,(by rw[D];rfl),(λq h=>by rw[D] at h;cases h;rfl),F.exm,F.res,tQ⟩);refine Aa 9 [] (λ_=>?_);have J:=Kn s k2 t;obtain⟨n,hv2⟩:=EJ (t:=Af s t) (by have:=h2;simpa using this);have D:B9 s (k2+1) t.one=some k2:=by rw[J,hv2];cases k2 <;> rfl
 exact Bc (DE C C) (λw f F=>⟨_,f,(by rw[D];rfl),(λq h=>by rw[D] at h;cases h;omega),F.exm,F.res,tQ⟩)
theorem VC:∀k,VisF prog 117 140 118 k:=λk=>Nat.strongRecOn k λk F w f G sb mb s fr pr J K hw h D L O Q t a c U W=>Wk k F w f G sb mb s fr pr J K hw h D L O Q t a c U W
theorem OX(w:wO)(f:Fq)(O:Vl w f)(sb mb:Nat)(s:Bk)(fr pr:Int)(G:BP 140 sb mb s fr pr w f)(hw:Jl s)(t:T1)(a:oA)(c:Nat)(J:t.bnd)(Q:Ai w f t.kids a c) :
  BF prog 93 #[pB sb,tV t a c] w (Ce (α:=Unit) (λ_=>.bool (D0 s t)) (λ_=>True) (λ_=>[]) w f):=by
 have K:=G.1.lt;have L:mb<w.heap.size:=by obtain⟨_,es,h,_⟩:=G;exact h.lt
 refine Df (X:=X0 w f) (H:=[]) (R:=[]) (B:=[]) (Fs:=[λw f=>Ai w f t.kids a c]) (f:=f) func93 C C C (CC O ⟨Q,tQ⟩ ⟨Ai.mono,tQ⟩)<|Aa 16 [0,1] (λb1=>λb2=>y<|y<|λ_=>FJ C C (λw f D=>Sh C)<|mgv 0 C C<|KH (λw f D=>(⟨λe=>(D.mi _ (.inr C)).2.2.elim (λh=>absurd K (by rw[e];exact Nat.not_lt.2 h)) (λh=>h),λe=>(D.mi _ (.inr C)).2.2.elim (λh=>absurd L (by rw[e];exact Nat.not_lt.2 h)) (λh=>h)⟩:sb≠b2∧mb≠b2)) λF=>P9 (α:=Int) (val:=λ_=>.bool (B9 s 1000 t.one).isSome) (q:=λ_=>True) (I':=λx w f=>True∧K7 b2 x w f) (F':=λ_=>[]) (XX:=λ_ _=>False) C C (eC N2 C C) (λw f D=>((VC 1000 w f D.vl sb mb s fr pr b2 (BP.keep G D.exm D.ent (λh=>h) (λh=>h)) hw F.1 F.2 (D.mi _ (.inr C)).2.1 D.res.2 (Nat.le_refl _) t a c J D.f0).mono λv w2 ⟨x,f2,U,h2,W,Y,Z⟩=>⟨x,f2,U,tQ,W.mono (λb J=>.inr J),⟨tQ,Y⟩,Z⟩).retP) (λ_=>(λ_ _ _ _ h hF hm=>⟨tQ,K7.stab (MI:=λb=>False∨b=b2) (.inr C) _ _ _ _ h.2 hF hm⟩)) (λ_=>trivial) (λ_ _ _ _ _ h=>h.elim) ?_);rintro cx -;exact Aa 4 [] (λ_=>Bc (DE C C) (λw f D=>⟨(),f,(by rw[D0,DA]),tQ,D.exm,tQ⟩))
theorem VH(w:wO)(f:Fq)(L:Vl w f)(F:Nat)(x:Int)(K:AS w F [iV x] 3)(t:T1)(a:oA)(c:Nat) :
  BF prog 138 #[tV t a c,pB F] w (Ce (α:=Unit) (λ_=>.bool (W8 x t)) (λ_=>True) (λ_=>[]) w f):=by
 have G:=K.lt;refine Df (X:=X0 w f) (H:=[]) (R:=[]) (B:=[]) (Fs:=[]) (f:=f) func138 C C C (CC L tQ tQ)<|Aa 12 [0] (λb1=>y<|λ_=>Bb 7 C C (λJ=>?_) (λJ=>?_));refine Aa 9 [] (λ_=>?_)
 cases t with
 |var m=>cases J
 |con tx k=>exact Bc (DE C C) (λw f D=>⟨(),f,C,tQ,D.exm,tQ⟩)
 refine Aa 2 [0] (y<|λ_=>FJ C C (λw f D=>Am C Iv ((D.stp.block F G (λh=>h)).trans K) C)<|Aa 6 [] (λ_=>?_))
 cases t with
 |var m=>exact Bc (DE C C) (λw f D=>⟨(),f,C,tQ,D.exm,tQ⟩)
 |con tx k=>cases J
theorem Uo(k:Nat)(ih:∀j,j<k→zK prog 117 140 138 j)(w:wO)(f:Fq)(hv:Vl w f)(sb mb:Nat)(s:Bk)(fr pr:Int)(O:Nat)(x:Int)(hS:BP 140 sb mb s fr pr w f)(hw:Jl s)(hB:AS w O [iV x] 3)(t:T1)(a:oA)(c jj:Nat)(hb:t.bnd)(hT:Ai w f t.kids a c)(G:B9 s k t.one=some jj) :
  BF prog 117 #[pB sb,tV t a c,.func (.func 138) #[] #[pB O]] w (Ce (α:=Unit) (λ_=>.bool (BB s x k t.one)) (λ_=>True) (λ_=>[]) w f):=by
 have hkb:=(CB hw hb).1;have Z:=hB.lt;obtain⟨k2,rfl⟩:∃q,k=q+1:=by cases k with|zero=>rw[LJ] at G;cases G|succ q=>exact⟨q,C⟩
 have hk3:B9 s k2 (Af s t).kids=some jj:=by rw[← Kn];exact G
 refine Df (X:=X0 w f) (H:=[]) (R:=[]) (B:=[]) (Fs:=[λw f=>Ai w f t.kids a c]) (f:=f) func117 C C C (CC hv ⟨hT,tQ⟩ ⟨Ai.mono,tQ⟩)<|Aa 10 [0] (λb1=>y<|λ_=>BA C C (eC GN C C) (λw f D=>Ep w f D.vl sb mb s fr pr (BP.keep hS D.exm D.ent (λh=>h) (λh=>h)) hw t a c hb D.f0) (λx=>⟨Ai.mono,tQ⟩) ?_);rintro⟨U,hc⟩ -;refine Aa 8 [0,0] (y<|y<|λ_=>BA C C (λ_=>W4 (caps:=[pB O]) mX C C) (λw f D=>VH w f D.vl O x ((D.stp.block O Z (λh=>h)).trans hB) (Af s t) U hc) (λx=>trivial) ?_);rintro⟨⟩ -;refine Aa 3 [] (λ_=>Bb 15 C C (λQ=>?_) (λQ=>?_));replace Q:=FM Q;refine Aa 8 [] (λ_=>?_);have F:BB s x (k2+1) t.one=false:=by rw[I4,Q];rfl
 exact Bc (DE C C) (λw f D=>⟨(),f,(by rw[F]),tQ,D.exm,tQ⟩);replace Q:=Gt Q;refine Aa 11 [0] (y<|λ_=>Bb 18 C C (λh2=>?_) (λh2=>?_));refine Aa 10 [0] (y<|λ_=>?_);refine HE (α:=Nat×Ty×Nat) (λy=>y.2.1.len) (λy=>y.1+y.2.1.len=(Af s t).kids.len∧B9 s k2 (Af s t).kids=B9 s y.2.2 y.2.1∧y.2.2≤k2∧y.2.1.bnd∧BB s x k2 (Af s t).kids=BB s x y.2.2 y.2.1) (λy=>(E6 0 (pB sb) 2 (.func (.func 138) #[] #[pB O]) 4 (pB b1) 20 (.slice U (Af s t).kids.len hc) 21 (iV ((Af s t).kids.len:Int)) 22 (iV (y.1:Int)))) (λy=>X0 w f) (λy=>[⟨b1,tC (Af s t) U hc,68,true⟩]) (λy=>[]) (λy=>[]) (λy=>[λw f=>Cc w f U y.1 y.2.1]) (0,(Af s t).kids,k2) ⟨by simp,C,Nat.le_refl _,(CB hw hb).2,C⟩ lE (λw f D=>D.more (B':=[]) (F':=[λw f=>Cc w f U 0 (Af s t).kids]) nE (AM.mem ⟨Ai.at D.f0,tQ⟩) (A2.mem ⟨Cc.mono,tQ⟩) |>.less (H':=[⟨b1,tC (Af s t) U hc,68,true⟩]) (R':=[]) (B':=[]) (F':=[λw f=>Cc w f U 0 (Af s t).kids]) sR sR nE (mR [0])) ?_;rintro⟨i,r,j⟩ ⟨hi,J,hjk,W,L⟩;dsimp only at hi J hjk W L ⊢;refine Aa 6 [] (λ_=>Bb 23 C C (λh3=>?_) (λh3=>?_));refine Aa 6 [] (λ_=>?_);have hil:i<(Af s t).kids.len:=by have:=dT h3;omega
 obtain⟨t2,r,rfl⟩:=Ty.cases1 r oM;rw[T1.len_cons] at hi;refine ZJ 0 C ?_;rintro⟨eb,eo,ka,kc⟩ rfl;refine Aa 12 [100,0,0,0] (aI oM<|y2<|λb2=>y<|y<|λ_=>?_);obtain⟨j2,K⟩:∃q,B9 s j t2.one=some q:=by cases hx:B9 s j t2.one with|some q=>exact⟨q,C⟩|none=>rw[J,Jt,hx] at hk3;cases hk3
 refine BA C C (eC N2 C C) (λw f D=>ih j oM w f D.vl sb mb s fr pr O x (BP.keep hS D.exm D.ent (λh=>h) (λh=>h)) hw ((D.stp.block O Z (λh=>h)).trans hB) t2 ka kc j2 (T1.bnd_cons.1 W).1 D.f0 K) (λx=>trivial) ?_;rintro⟨⟩ -;refine Aa 3 [] (λ_=>Bb 30 C C (λY=>?_) (λY=>?_));replace Y:=FM Y;refine Aa 9 [] (λ_=>pM<|Aa 2 [] (λ_=>?_));have F:BB s x (k2+1) t.one=false:=by rw[I4,L,Qx K,Y];simp
 exact Bc (DE C C) (λw f D=>⟨(),f,(by rw[F]),tQ,D.exm,tQ⟩);replace Y:=Gt Y;exact Aa 8 [] (aI ⟨oM,oM⟩<|λ_=>DW ((i+1,r,j2)) (show r.len<(t2.cons r).len by rw[T1.len_cons];omega) ⟨show i+1+r.len=(Af s t).kids.len by omega,show B9 s k2 (Af s t).kids=B9 s j2 r by rw[J,Jt,K];rfl,show j2≤k2 by have:=EH s j t2.one j2 K;omega,(T1.bnd_cons.1 W).2,show BB s x k2 (Af s t).kids=BB s x j2 r by rw[L,Qx K,Y];rfl⟩ lE (λw f D=>⟨_,D.less (H':=[⟨b1,tC (Af s t) (some ⟨eb,eo,none⟩) hc,68,true⟩]) (R':=[]) (B':=[]) (F':=[λw f=>Cc w f (some ⟨eb,eo,none⟩) (i+1) r]) (List.sublist_cons_self _ _) sR nE (mR [1])⟩));refine Aa 3 [] (λ_=>GP<|Aa 8 [] (λ_=>?_));obtain rfl:r=.nil:=Ty.len0 (by have:=dF h3;omega);have F:BB s x (k2+1) t.one=true:=by rw[I4,Q,L];cases j <;> rfl
 exact Bc (DE C C) (λw f D=>⟨(),f,(by rw[F]),tQ,D.exm,tQ⟩);refine Aa 9 [] (λ_=>?_);obtain⟨n,hv2⟩:=EJ (t:=Af s t) (by have:=h2;simpa using this);have F:BB s x (k2+1) t.one=true:=by rw[I4,Q,hv2];cases k2 <;> rfl
 exact Bc (DE C C) (λw f D=>⟨(),f,(by rw[F]),tQ,D.exm,tQ⟩)
theorem Tu:∀k,zK prog 117 140 138 k:=λk=>Nat.strongRecOn k λk h w f D sb mb s fr pr F x G hw J t a c j K L O=>Uo k h w f D sb mb s fr pr F x G hw J t a c j K L O
theorem Ms(w:wO)(f:Fq)(Z:Vl w f)(sb mb:Nat)(s:Bk)(fr pr:Int)(hS:BP 140 sb mb s fr pr w f)(hf:f sb=0∧f mb=0)(O:sb≠mb)(hw:Jl s)(n:Int)(Q:A8 s n=none)(t:T1)(a:oA)(c:Nat)(W:t.bnd)(hT:Ai w f t.kids a c) :
  BF prog 110 #[pB sb,iV n,tV t a c] w (Fv (α:=Unit) (λ_=>iV (J8 s n t).1) (λ_=>True) (Nn sb mb) (λ_=>BP 140 sb mb (J8 s n t).2 fr pr) (λ_=>[]) w f):=by
 refine Df (X:=XS 140 sb mb s fr pr w f) (H:=[]) (R:=[]) (B:=[]) (Fs:=[λw f=>Ai w f t.kids a c]) (f:=f) func110 C C C (nB Z hS hf ⟨hT,tQ⟩ ⟨Ai.mono,tQ⟩)<|Aa 12 [0] (λb1=>λb2=>y<|λ_=>BA C C (eC ZT C C) (λw f D=>OX w f D.vl sb mb s fr pr D.res hw t a c W D.f0) (λx=>trivial) ?_);rintro⟨⟩ -;refine Aa 3 [] (λ_=>Bb 10 C C (λF=>?_) (λF=>?_));replace F:=FM F;refine Aa 8 [] (λ_=>?_);have J:=YC (n:=n) F;exact Bc (DE C C) (λw f D=>⟨(),f,(by rw[J]),tQ,D.exm,(by rw[J];exact D.res),tQ⟩);replace F:=Gt F;refine Aa 8 [0] (y<|λ_=>FJ C C (λw f D=>Sh C) ?_);obtain⟨j,hj⟩:∃j,B9 s 1000 t.one=some j:=by have Y:=F;rw[D0,DA] at Y;exact Option.isSome_iff_exists.1 Y
 refine BA C C (eC N2 C C) (λw f D=>Tu 1000 w f D.vl sb mb s fr pr b1 n D.res hw D.k1 t a c j W D.f0 hj) (λx=>trivial) ?_;rintro⟨⟩ -;refine Aa 3 [] (λ_=>Bb 15 C C (λG=>?_) (λG=>?_));replace G:=FM G;refine Aa 8 [] (λ_=>?_);have J:=fK F G;exact Bc (DE C C) (λw f D=>⟨(),f,(by rw[J]),tQ,D.exm,(by rw[J];exact D.res),tQ⟩);replace G:=Gt G;refine Aa 4 [] (λ_=>mxi (lP 140 sb mb s fr pr) (λw f h=>let ⟨F,es,G,h3⟩:=h;⟨es,F,G,h3⟩) (λ_=>lP.stab (.inl C) (.inr C)) ?_);intro es;refine KH (λw f D=>(⟨Gu.dis D.res.2.2 hw,(Gu.look D.res.2.2 n).1 Q⟩:Lj es∧FF es n=none)) λL=>MT (λw=>AS w sb [.map (some mb),iV fr,iV pr] 140) (λw f h _=>h.1) [0,1] Aq (rd [0,1,2,3,4,5] (.br 6 .fin .fin)) C kR kR kR (λ_ _ _ _ _ h=>h)<|A9 3 [] (λ_=>HX C C C (λw hK=>Am C VJ hK.2.2 C)<|A9 2 [1,0] (y<|y<|λ_=>Ah C ?_ Aj));refine iT (K:=Fu) (a:=n) (l:=es) (I':=BP 140 sb mb ((n,t)::s) fr pr) C C C C V1 P8 (.inr C) L.1 L.2 (λw f h=>h.2.1) (λw f w2 h D U hm=>⟨(U.block sb O).trans h.1,_,hm,a,c,es,C,Ai.mono _ _ _ _ D.f0 (U.fle (D.mi mb (.inr C)).2.1),Gu.mono (U.fle (D.mi mb (.inr C)).2.1) s es h.2.2⟩) (BP.stab (.inl C) (.inr C))<|Aa 1 [] (λ_=>Bl [0,1] (λw f h _=>h.1) C (λ_ h=>h)<|Bx<|Aa 7 [] (λ_=>?_));have J:=cH F G;exact Bc (DE C C) (λw f D=>⟨(),f,(by rw[J]),tQ,D.exm,(by rw[J];exact D.res),tQ⟩)
theorem Oc(w:wO)(f:Fq)(J:Vl w f)(sb mb:Nat)(s:Bk)(fr pr:Int)(K:BP 140 sb mb s fr pr w f)(L:f sb=0∧f mb=0)(F:sb≠mb)  (O:0≤fr∧fr<1000000000000) :
  BF prog 62 #[pB sb] w (Fv (α:=Unit) (λ_=>tV (.var (fr+1)) none 0) (λ_=>True) (Nn sb mb) (λ_=>BP 140 sb mb s (fr+1) pr) (λ_=>[]) w f):=by
 refine Df (X:=XS 140 sb mb s fr pr w f) (H:=[]) (R:=[]) (B:=[]) (Fs:=[]) (f:=f) func62 C C C (nB J K L tQ tQ)<|Aa 20 [] (λb1=>λ_=>FJ C C (λw f D=>Am C Iv D.res.1 C)<|Aa 3 [] (aI ⟨oM,oM⟩<|λ_=>iP (b:=sb) (I':=BP 140 sb mb s (fr+1) pr) C C C C Iv C C C (.inl C) (λw f h=>h.1) (λw f Y h D G Q=>⟨Q,let ⟨_,es,U,W⟩:=h;⟨es,U.heap (G.block mb (λe=>F e.symm)),Gu.mono (G.fle (D.mi sb (.inl C)).2.1) s es W⟩⟩) (BP.stab (.inl C) (.inr C))<|Aa 7 [] (λ_=>FJ C C (λw f D=>Am C Iv D.res.1 C)<|BA C C (eC Hr C C) (λw f D=>Ej w f D.vl (fr+1)) (λx=>trivial) ?_)));rintro⟨⟩ -;exact Aa 4 [0] (y<|λ_=>Bc (λw f D=>AG C (Ae C AZ D.k0 C)) (λw f D=>⟨(),f,C,tQ,D.exm,D.res,tQ⟩))
theorem Zn(k:Nat)(ih:∀j,j<k→oT prog 83 140 j)(w:wO)(f:Fq)(hv:Vl w f)(sb mb:Nat)(s:Bk)(fr:Int)(hS:BP 140 sb mb s fr (10000-(k:Int)) w f)(hf:f sb=0∧f mb=0)(hne:sb≠mb)(hw:Jl s)(hk:k≤10000)(t u:T1)(a:oA)(c:Nat)(a2:oA)(c2:Nat)(hbt:t.bnd)(U:u.bnd)(hT:Ai w f t.kids a c)(hU:Ai w f u.kids a2 c2) :
  BF prog 83 #[pB sb,tV t a c,tV u a2 c2] w (Fv (α:=Int×Bk×Int) (λx=>iV x.1) (λx=>(∀z,GU k s t.one u.one=.ok z→x.1=0∧x.2.1=z.2∧x.2.2=10000-(z.1:Int)∧Jl z.2)∧∀e,GU k s t.one u.one=.error e→x.1=e∧e≠0) (Nn sb mb) (λx=>BP 140 sb mb x.2.1 fr x.2.2) (λ_=>[]) w f):=by
 have hkt:=(CB hw hbt).1;have hku:=(CB hw U).1;refine Df (X:=XS 140 sb mb s fr (10000-(k:Int)) w f) (H:=[]) (R:=[]) (B:=[]) (Fs:=[λw f=>Ai w f t.kids a c,λw f=>Ai w f u.kids a2 c2]) (f:=f) func83 C C C (nB hv hS hf ⟨hT,hU,tQ⟩ ⟨Ai.mono,Ai.mono,tQ⟩)<|Aa 13 [] (λb1=>λb2=>λ_=>FJ C C (λw f D=>Am C Iv D.res.1 C)<|Aa 3 [] (λ_=>Bb 13 C C (λh1=>?_) (λh1=>?_)));refine Aa 8 [] (λ_=>?_);obtain rfl:k=0:=by have K:=beq_iff_eq.1 h1;omega
 have F:=mL s t u;exact Bc (DE C C) (λw f D=>⟨(4,s,_),f,C,⟨λz h=>(by rw[F] at h;cases h),λe h=>(by rw[F] at h;cases h;exact⟨C,dC⟩)⟩,D.exm,D.res,tQ⟩);refine Aa 4 [] (λ_=>?_);obtain⟨k2,rfl⟩:∃q,k=q+1:=⟨k-1,by have K:=h1;have:¬(10000-(k:Int))=10000:=(by simpa using K);omega⟩;refine Aa 4 [] (λ_=>FJ C C (λw f D=>Am C Iv D.res.1 C)<|Aa 3 [] (aI ⟨oM,oM⟩<|λ_=>iP (b:=sb) (I':=BP 140 sb mb s fr (10000-(k2:Int))) C C C C Iv C C C (.inl C) (λw f h=>h.1) (λw f w2 h D hC hb=>(by rw[show (10000-((k2+1:Nat):Int)+1)=10000-(k2:Int) by omega] at hb;exact⟨hb,let ⟨_,es,h2,h3⟩:=h;⟨es,h2.heap (hC.block mb (λe=>hne e.symm)),Gu.mono (hC.fle (D.mi sb (.inl C)).2.1) s es h3⟩⟩)) (BP.stab (.inl C) (.inr C))<|Aa 3 [] (λ_=>?_)));refine YJ (α:=oA×Nat×oA×Nat) (λx=>True) (λx=>(E3 0 (pB sb) 4 (pB b1) 5 (pB b2))) (λx=>⟨Nn sb mb,Nn sb mb,BP 140 sb mb s fr (10000-(k2:Int)),w,f⟩) (λx=>[⟨b2,tC (Af s u) x.2.2.1 x.2.2.2,68,true⟩,⟨b1,tC (Af s t) x.1 x.2.1,68,true⟩]) (λx=>[]) (λx=>[]) (λx=>[λw f=>Ai w f (Af s t).kids x.1 x.2.1,λw f=>Ai w f (Af s u).kids x.2.2.1 x.2.2.2]) ?_ ?_;refine Dh [] Aq (.rd 0 (.rd 3 (.br 1 (.br 2 (.br 4 (.br 5 (.br 6 (.br 7 .fin .fin) .fin) .fin) .fin) (.br 4 (.br 2 (.br 5 (.br 6 (.br 7 .fin .fin) .fin) .fin) .fin) .fin)) (.br 4 (.br 1 (.br 2 (.br 5 (.br 6 (.br 7 .fin .fin) .fin) .fin) .fin) .fin) .fin)))) C kR<|A9 2 [] (λ_=>Ah C ?_ ?_);refine Aa 2 [1] (y<|λ_=>Az [] C<|Ah C ?_ ?_);refine BA C C (eC GN C C) (λw f D=>Ep w f D.vl sb mb s fr (10000-(k2:Int)) D.res hw t a c hbt D.f0) (λx=>⟨Ai.mono,tQ⟩) ?_;rintro⟨ha,hc⟩ -;refine Aa 1 [] (λ_=>Az [] C<|Ah C ?_ Aj);refine Aa 2 [0] (y<|λ_=>Az [] C<|Ah C ?_ Aj);refine BA C C (eC GN C C) (λw f D=>Ep w f D.vl sb mb s fr (10000-(k2:Int)) D.res hw u a2 c2 U D.f2) (λx=>⟨Ai.mono,tQ⟩) ?_;rintro⟨ga,gc⟩ -;refine Aa 1 [] (λ_=>Az [] C<|Ah C ?_ Aj);refine Aa 2 [1] (y<|λ_=>Az [] C<|Ah C ?_ Aj);exact Aa 2 [0] (y<|λ_=>Az [] C<|Bx<|Mn (ha,hc,ga,gc) tQ lE (λw f D=>⟨f,D.less sR sR (λ_ h=>h) (mR [1,0])⟩));refine Ah C ?_ Aj;refine Aa 2 [0] (y<|λ_=>Az [] C<|Ah C ?_ Aj);refine BA C C (eC GN C C) (λw f D=>Ep w f D.vl sb mb s fr (10000-(k2:Int)) D.res hw t a c hbt D.f0) (λx=>⟨Ai.mono,tQ⟩) ?_;rintro⟨ha,hc⟩ -;refine Aa 1 [] (λ_=>Az [] C<|Ah C ?_ Aj);refine BA C C (eC GN C C) (λw f D=>Ep w f D.vl sb mb s fr (10000-(k2:Int)) D.res hw u a2 c2 U D.f2) (λx=>⟨Ai.mono,tQ⟩) ?_;rintro⟨ga,gc⟩ -;refine Aa 1 [] (λ_=>Az [] C<|Ah C ?_ Aj);refine Aa 2 [1] (y<|λ_=>Az [] C<|Ah C ?_ Aj);exact Aa 2 [0] (y<|λ_=>Az [] C<|Bx<|Mn (ha,hc,ga,gc) tQ lE (λw f D=>⟨f,D.less sR sR (λ_ h=>h) (mR [1,0])⟩));refine Ah C ?_ Aj;refine Aa 2 [0] (y<|λ_=>Az [] C<|Ah C ?_ Aj);refine Aa 2 [1] (y<|λ_=>Az [] C<|Ah C ?_ Aj)
 refine BA C C (eC GN C C) (λw f D=>Ep w f D.vl sb mb s fr (10000-(k2:Int)) D.res hw t a c hbt D.f0) (λx=>⟨Ai.mono,tQ⟩) ?_;rintro⟨ha,hc⟩ -;refine Aa 1 [] (λ_=>Az [] C<|Ah C ?_ Aj);refine BA C C (eC GN C C) (λw f D=>Ep w f D.vl sb mb s fr (10000-(k2:Int)) D.res hw u a2 c2 U D.f2) (λx=>⟨Ai.mono,tQ⟩) ?_;rintro⟨ga,gc⟩ -;refine Aa 1 [] (λ_=>Az [] C<|Ah C ?_ Aj);refine Aa 2 [1] (y<|λ_=>Az [] C<|Ah C ?_ Aj);exact Aa 2 [0] (y<|λ_=>Az [] C<|Bx<|Mn (ha,hc,ga,gc) tQ lE (λw f D=>⟨f,D.less sR sR (λ_ h=>h) (mR [1,0])⟩));rintro⟨ha,hc,ga,gc⟩ -;dsimp only;refine Aa 9 [1] (y<|λ_=>Bb 31 C C (λh2=>?_) (λh2=>?_));refine Aa 5 [0] (y<|λ_=>Bb 36 C C (λh3=>?_) (λh3=>?_));refine Aa 9 [1,0] (y<|y<|λ_=>Bb 27 C C (λh4=>?_) (λh4=>?_));refine Aa 9 [] (λ_=>?_);obtain⟨n,O⟩:=EJ h2;obtain⟨m,hm⟩:=EJ h3;have F:GU (k2+1) s t.one u.one=.ok (k2,s):=by rw[KQ,O,hm];simp only[Li];rw[if_pos (by have K:=h4;rw[O,hm] at K;exact K)];cases k2 <;> rfl
 exact Bc (DE C C) (λw f D=>⟨(0,s,_),f,C,⟨λz h=>(by rw[F] at h;cases h;exact⟨C,C,C,hw⟩),λe h=>(by rw[F] at h;cases h)⟩,D.exm,D.res,tQ⟩);refine Aa 9 [1] (y<|λ_=>mkn 43 true C C h2<|Aa 7 [1,0] (y<|y<|λ_=>?_));obtain⟨n,O⟩:=EJ h2;refine P9 (XX:=λ_ _=>False) C C (eC Rd C C) (λw f D=>(Ms w f D.vl sb mb s fr (10000-(k2:Int)) D.res ⟨(D.mi sb (.inl C)).2.1,(D.mi mb (.inr C)).2.1⟩ hne hw (Af s t).num (by rw[O];exact FT hw O) (Af s u) ga gc (CB hw U) D.f1).retP) (λ_=>(BP.stab (.inl C) (.inr C))) (λ_=>trivial) (λ_ _ _ _ _ h=>h.elim) ?_;rintro⟨⟩ -;refine Aa 6 [] (λ_=>?_)
 have F:GU (k2+1) s t.one u.one=(match BG s n (Af s u) with|.error e=>.error e|.ok b=>.ok (k2,b)):=by
  rw[KQ,O]
  cases hm:(Af s u) with
  |var m=>simp only[Li];rw[if_neg (by have K:=h4;rw[O,hm] at K;simp only[T1.num] at K;rw[K];simp)];cases BG s n (.var m) with|error e=>rfl|ok b=>cases k2 <;> rfl
  |con ty kb=>simp only[Li];cases BG s n (.con ty kb) with|error e=>rfl|ok b=>cases k2 <;> rfl
 have W:(Af s t).num=n:=by rw[O];rfl
 have G:J8 s (Af s t).num (Af s u)=(match BG s n (Af s u) with|.error e=>(e,s)|.ok b=>(0,b)):=by rw[W];rfl
 cases J:BG s n (Af s u) with
 |error er=>rw[J] at F G;exact Bc (DE C C) (λw f D=>⟨(er,s,_),f,(by rw[G]),⟨λz h=>(by rw[F] at h;cases h),λe h=>(by rw[F] at h;cases h;exact⟨C,R3 J⟩)⟩,D.exm,(by have L:=D.res;rw[G] at L;exact L),tQ⟩)
 |ok b9=>rw[J] at F G;exact Bc (DE C C) (λw f D=>⟨(0,b9,_),f,(by rw[G]),⟨λz h=>(by rw[F] at h;cases h;exact⟨C,C,C,RJ hw (FT hw O) (Mv hw _) (CB hw U) J⟩),λe h=>(by rw[F] at h;cases h)⟩,D.exm,(by have L:=D.res;rw[G] at L;exact L),tQ⟩)
 refine Aa 18 [1] (y<|λ_=>mkn 43 true C C h2<|Aa 7 [1,0] (y<|y<|λ_=>?_));obtain⟨n,O⟩:=EJ h2;refine P9 (XX:=λ_ _=>False) C C (eC Rd C C) (λw f D=>(Ms w f D.vl sb mb s fr (10000-(k2:Int)) D.res ⟨(D.mi sb (.inl C)).2.1,(D.mi mb (.inr C)).2.1⟩ hne hw (Af s t).num (by rw[O];exact FT hw O) (Af s u) ga gc (CB hw U) D.f1).retP) (λ_=>(BP.stab (.inl C) (.inr C))) (λ_=>trivial) (λ_ _ _ _ _ h=>h.elim) ?_;rintro⟨⟩ -;refine Aa 6 [] (λ_=>?_)
 have F:GU (k2+1) s t.one u.one=(match BG s n (Af s u) with|.error e=>.error e|.ok b=>.ok (k2,b)):=by
  rw[KQ,O]
  cases hm:(Af s u) with
  |var m=>simp only[Li];rw[if_neg (by have K:=h3;rw[hm] at K;cases K)];cases BG s n (.var m) with|error e=>rfl|ok b=>cases k2 <;> rfl
  |con ty kb=>simp only[Li];cases BG s n (.con ty kb) with|error e=>rfl|ok b=>cases k2 <;> rfl
 have W:(Af s t).num=n:=by rw[O];rfl
 have G:J8 s (Af s t).num (Af s u)=(match BG s n (Af s u) with|.error e=>(e,s)|.ok b=>(0,b)):=by rw[W];rfl
 cases J:BG s n (Af s u) with
 |error er=>rw[J] at F G;exact Bc (DE C C) (λw f D=>⟨(er,s,_),f,(by rw[G]),⟨λz h=>(by rw[F] at h;cases h),λe h=>(by rw[F] at h;cases h;exact⟨C,R3 J⟩)⟩,D.exm,(by have L:=D.res;rw[G] at L;exact L),tQ⟩)
 |ok b9=>rw[J] at F G;exact Bc (DE C C) (λw f D=>⟨(0,b9,_),f,(by rw[G]),⟨λz h=>(by rw[F] at h;cases h;exact⟨C,C,C,RJ hw (FT hw O) (Mv hw _) (CB hw U) J⟩),λe h=>(by rw[F] at h;cases h)⟩,D.exm,(by have L:=D.res;rw[G] at L;exact L),tQ⟩)
 refine Aa 23 [1] (y<|λ_=>mkn 43 false C C h2<|Aa 9 [0] (y<|λ_=>Bb 52 C C (λh5=>?_) (λh5=>?_)));refine Aa 7 [0,1] (y<|y<|λ_=>?_);obtain⟨n,O⟩:=EJ h5;refine P9 (XX:=λ_ _=>False) C C (eC Rd C C) (λw f D=>(Ms w f D.vl sb mb s fr (10000-(k2:Int)) D.res ⟨(D.mi sb (.inl C)).2.1,(D.mi mb (.inr C)).2.1⟩ hne hw (Af s u).num (by rw[O];exact FT hw O) (Af s t) ha hc (CB hw hbt) D.f0).retP) (λ_=>(BP.stab (.inl C) (.inr C))) (λ_=>trivial) (λ_ _ _ _ _ h=>h.elim) ?_;rintro⟨⟩ -;refine Aa 6 [] (λ_=>?_)
 have F:GU (k2+1) s t.one u.one=(match BG s n (Af s t) with|.error e=>.error e|.ok b=>.ok (k2,b)):=by
  rw[KQ,O];obtain⟨tx,ka,Q⟩:=FY h2;rw[Q];simp only[Li]
  cases BG s n (.con tx ka) with|error e=>rfl|ok b=>cases k2 <;> rfl
 have W:(Af s u).num=n:=by rw[O];rfl
 have G:J8 s (Af s u).num (Af s t)=(match BG s n (Af s t) with|.error e=>(e,s)|.ok b=>(0,b)):=by rw[W];rfl
 cases J:BG s n (Af s t) with
 |error er=>rw[J] at F G;exact Bc (DE C C) (λw f D=>⟨(er,s,_),f,(by rw[G]),⟨λz h=>(by rw[F] at h;cases h),λe h=>(by rw[F] at h;cases h;exact⟨C,R3 J⟩)⟩,D.exm,(by have L:=D.res;rw[G] at L;exact L),tQ⟩)
 |ok b9=>rw[J] at F G;exact Bc (DE C C) (λw f D=>⟨(0,b9,_),f,(by rw[G]),⟨λz h=>(by rw[F] at h;cases h;exact⟨C,C,C,RJ hw (FT hw O) (Mv hw _) (CB hw hbt) J⟩),λe h=>(by rw[F] at h;cases h)⟩,D.exm,(by have L:=D.res;rw[G] at L;exact L),tQ⟩)
 refine Aa 9 [1,0] (y<|y<|λ_=>Bb 67 C C (λh6=>?_) (λh6=>?_));refine Aa 20 [] (λ_=>?_);obtain⟨tx,ka,Q⟩:=FY h2;obtain⟨ty,kb,Y⟩:=FY h5;have F:GU (k2+1) s t.one u.one=.error 11:=by rw[KQ,Q,Y];simp only[Li];rw[if_pos (by have h8:=h6;rw[Q,Y] at h8;simp only[T1.tx] at h8;rw[h8];rfl)]
 exact Bc (DE C C) (λw f D=>⟨(11,s,_),f,C,⟨λz h=>(by rw[F] at h;cases h),λe h=>(by rw[F] at h;cases h;exact⟨C,dC⟩)⟩,D.exm,D.res,tQ⟩);refine Aa 11 [1,0] (y<|y<|λ_=>Bb 61 C C (λL=>?_) (λL=>?_));refine Aa 9 [] (λ_=>?_);obtain⟨tx,ka,Q⟩:=FY h2;obtain⟨ty,kb,Y⟩:=FY h5;have F:GU (k2+1) s t.one u.one=.error 11:=by rw[KQ,Q,Y];simp only[Li];rw[if_pos (by have K:=L;rw[Q,Y] at K;simp only[T1.kids] at K;rw[K];simp)]
 exact Bc (DE C C) (λw f D=>⟨(11,s,_),f,C,⟨λz h=>(by rw[F] at h;cases h),λe h=>(by rw[F] at h;cases h;exact⟨C,dC⟩)⟩,D.exm,D.res,tQ⟩);refine Aa 6 [] (λ_=>?_);obtain⟨tx,ka,Q⟩:=FY h2;obtain⟨ty,kb,Y⟩:=FY h5;have hlen:(Af s t).kids.len=(Af s u).kids.len:=by have K:(((Af s t).kids.len:Int) != (Af s u).kids.len)=false:=L;simp at K;omega
 have F:GU (k2+1) s t.one u.one=GU k2 s (Af s t).kids (Af s u).kids:=by rw[KQ];rw[Q,Y];simp only[Li,T1.kids];rw[if_neg (by have h8:=h6;have K:=L;rw[Q,Y] at h8 K;simp only[T1.tx,T1.kids] at h8 K;rw[h8,K];simp),Ty.app_nil,Ty.app_nil]
 refine Aa 8 [1] (y<|λ_=>?_);refine HE (α:=Nat×Ty×Ty×Nat×Bk) (λx=>x.2.1.len) (λx=>x.1+x.2.1.len=(Af s t).kids.len∧x.2.2.1.len=x.2.1.len∧GU k2 s (Af s t).kids (Af s u).kids=GU x.2.2.2.1 x.2.2.2.2 x.2.1 x.2.2.1∧x.2.2.2.1≤k2∧Jl x.2.2.2.2∧x.2.1.bnd∧x.2.2.1.bnd) (λx=>(E5 0 (pB sb) 4 (pB b1) 5 (pB b2) 78 (iV ((Af s t).kids.len:Int)) 79 (iV (x.1:Int)))) (λx=>⟨Nn sb mb,Nn sb mb,BP 140 sb mb x.2.2.2.2 fr (10000-(x.2.2.2.1:Int)),w,f⟩) (λx=>[⟨b2,tC (Af s u) ga gc,68,true⟩,⟨b1,tC (Af s t) ha hc,68,true⟩]) (λx=>[]) (λx=>[]) (λx=>[λw f=>Cc w f ha x.1 x.2.1,λw f=>Cc w f ga x.1 x.2.2.1]) (0,(Af s t).kids,(Af s u).kids,k2,s) ⟨by simp,hlen.symm,C,Nat.le_refl _,hw,(CB hw hbt).2,(CB hw U).2⟩ lE (λw f D=>D.more (B':=[]) (F':=[λw f=>Cc w f ha 0 (Af s t).kids,λw f=>Cc w f ga 0 (Af s u).kids]) nE (AM.mem ⟨Ai.at D.f0,Ai.at D.f1,tQ⟩) (A2.mem ⟨Cc.mono,Cc.mono,tQ⟩) |>.less (H':=[⟨b2,tC (Af s u) ga gc,68,true⟩,⟨b1,tC (Af s t) ha hc,68,true⟩]) (R':=[]) (B':=[]) (F':=[λw f=>Cc w f ha 0 (Af s t).kids,λw f=>Cc w f ga 0 (Af s u).kids]) sR sR nE (mR [0,1])) ?_;rintro⟨i,r,q,j,s2⟩ ⟨hi,hq,hrun,hjk,hw2,hrb,hqb⟩;dsimp only at hi hq hrun hjk hw2 hrb hqb ⊢;refine Aa 6 [] (λ_=>Bb 80 C C (λh8=>?_) (λh8=>?_));refine Aa 12 [] (λ_=>?_);have hil:i<(Af s t).kids.len:=by have:=dT h8;omega
 obtain⟨t2,r,rfl⟩:=Ty.cases1 r oM;rw[T1.len_cons] at hi hq;obtain⟨u2,q,rfl⟩:=Ty.cases1 q oM;rw[T1.len_cons] at hq;refine ZJ 0 C ?_;rintro⟨eb,eo,ea,ec⟩ rfl;refine ZJ 3 C ?_;rintro⟨pb,po,pa,pc⟩ rfl;refine Dh [0,1] Aq (rd [0,1,2,3,4,5,6,7,8,9,10] (.br 11 (.rd 12 .fin) .fin)) C kR<|A9 11 [1,101,0,0,100,0] (y<|aI oM<|y2<|y<|aI oM<|y2<|λ_=>Ah C ?_ Aj);refine P9 (XX:=λ_ _=>False) C C (eC bW C C) (λw f D=>(ih j oM w f D.vl sb mb s2 fr D.res ⟨(D.mi sb (.inl C)).2.1,(D.mi mb (.inr C)).2.1⟩ hne hw2 oM t2 u2 ea ec pa pc (T1.bnd_cons.1 hrb).1 (T1.bnd_cons.1 hqb).1 D.f2 D.f0).retP) (λ_=>(BP.stab (.inl C) (.inr C))) (λ_=>trivial) (λ_ _ _ _ _ h=>h.elim) ?_;rintro⟨cd,s3,pr3⟩ ⟨hok,herr⟩;refine Aa 1 [] (λ_=>Az [0,1] C<|A9 1 [] (λ_=>Bx<|Aa 7 [] (λ_=>Bb 95 C C (λK=>?_) (λK=>?_))));obtain⟨er,her⟩:∃e,GU j s2 t2.one u2.one=.error e:=by cases hx:GU j s2 t2.one u2.one with|error e=>exact⟨e,C⟩|ok z=>have g9:=(hok z hx).1;rw[g9] at K;cases K
 refine Aa 10 [] (λ_=>pM<|Aa 2 [] (λ_=>?_));have Z:GU (k2+1) s t.one u.one=.error er:=by rw[F,hrun,Tk _ _ _ _ _ _ (by omega),her];rfl
 exact Bc (DE C C) (λw f D=>⟨(cd,s3,pr3),f,C,⟨λz h=>(by rw[Z] at h;cases h),λe h=>(by rw[Z] at h;cases h;exact herr _ her)⟩,D.exm,D.res,tQ⟩);obtain⟨z,hz⟩:∃z,GU j s2 t2.one u2.one=.ok z:=by cases hx:GU j s2 t2.one u2.one with|ok z=>exact⟨z,C⟩|error e=>have g9:=herr e hx;have g8:cd=0:=(by simpa using K);exact absurd (g9.1.symm.trans g8) g9.2
 obtain⟨hz1,hz2,hz3,hz4⟩:=hok z hz;exact Aa 8 [] (aI ⟨oM,oM⟩<|λ_=>DW ((i+1,r,q,z.1,z.2)) (show r.len<(t2.cons r).len by rw[T1.len_cons];omega) ⟨show i+1+r.len=_ by omega,show q.len=r.len by omega,show GU k2 s _ _=GU z.1 z.2 r q by rw[hrun,Tk _ _ _ _ _ _ (by omega),hz];rfl,show z.1≤k2 by have:=yG _ _ _ _ _ hz;omega,hz4,(T1.bnd_cons.1 hrb).2,(T1.bnd_cons.1 hqb).2⟩ lE (λw f D=>⟨_,by have hM2:=D.less (H':=[⟨b2,tC (Af s u) (some ⟨pb,po,none⟩) gc,68,true⟩,⟨b1,tC (Af s t) (some ⟨eb,eo,none⟩) hc,68,true⟩]) (R':=[]) (B':=[]) (F':=[λw f=>Cc w f (some ⟨eb,eo,none⟩) (i+1) r,λw f=>Cc w f (some ⟨pb,po,none⟩) (i+1) q]) sR sR nE (mR [3,1]);rw[hz2,hz3] at hM2;exact hM2⟩));refine Aa 3 [] (λ_=>GP<|Aa 8 [] (λ_=>?_));obtain rfl:r=.nil:=Ty.len0 (by have:=dF h8;omega);have Z:GU (k2+1) s t.one u.one=.ok (j,s2):=by rw[F,hrun];cases j <;> rfl
 exact Bc (DE C C) (λw f D=>⟨(0,s2,_),f,C,⟨λz h=>(by rw[Z] at h;cases h;exact⟨C,C,C,hw2⟩),λe h=>(by rw[Z] at h;cases h)⟩,D.exm,D.res,tQ⟩)
theorem YB(k:Nat):oT prog 83 140 k:=Nat.strongRecOn k λk G w f J sb mb s fr K L h hw O t u a c a2 c2 D F Q U=>Zn k G w f J sb mb s fr K L h hw O t u a c a2 c2 D F Q U
theorem Vo(w:wO)(f:Fq)(W:Vl w f)(sb mb:Nat)(s:Bk)(fr pr:Int)(Y:BP 140 sb mb s fr pr w f)(Z:f sb=0∧f mb=0)(J:sb≠mb)(hw:Jl s)(t u:T1)(a:oA)(c:Nat)(a2:oA)(c2:Nat)(K:t.bnd)(L:u.bnd)(hT:Ai w f t.kids a c)(hU:Ai w f u.kids a2 c2) :
  BF prog 55 #[pB sb,tV t a c,tV u a2 c2] w (Fv (α:=Int×Bk×Int) (λx=>iV x.1) (λx=>(∀b,DY s t u=.ok b→x.1=0∧x.2.1=b∧Jl b)∧∀e,DY s t u=.error e→x.1=e∧e≠0) (Nn sb mb) (λx=>BP 140 sb mb x.2.1 fr x.2.2) (λ_=>[]) w f):=by
 refine Df (X:=XS 140 sb mb s fr pr w f) (H:=[]) (R:=[]) (B:=[]) (Fs:=[λw f=>Ai w f t.kids a c,λw f=>Ai w f u.kids a2 c2]) (f:=f) func55 C C C (nB W Y Z ⟨hT,hU,tQ⟩ ⟨Ai.mono,Ai.mono,tQ⟩)<|Aa 22 [] (λb1=>λb2=>λ_=>iP (b:=sb) (I':=BP 140 sb mb s fr (10000-((10000:Nat):Int))) C C C C Iv C C C (.inl C) (λw f h=>h.1) (λw f w2 h D U hb=>⟨hb,let ⟨_,es,h2,h3⟩:=h;⟨es,h2.heap (U.block mb (λe=>J e.symm)),Gu.mono (U.fle (D.mi sb (.inl C)).2.1) s es h3⟩⟩) (BP.stab (.inl C) (.inr C))<|Aa 3 [] (λ_=>Dh [0,1] Aq (rd [0,1,3] (.br 2 (.br 4 (.br 5 (.rd 6 .fin) .fin) .fin) .fin)) C kR<|A9 3 [1,0] (y<|y<|λ_=>Ah C ?_ Aj)));refine BA C C (eC Rj C C) (λw f D=>Ou w f D.vl t a c K D.f0) (λx=>⟨Ai.mono,tQ⟩) ?_;rintro⟨ha,hc⟩ -;refine Aa 1 [] (λ_=>Az [0,1] C<|Ah C ?_ Aj);refine BA C C (eC Rj C C) (λw f D=>Ou w f D.vl u a2 c2 L D.f2) (λx=>⟨Ai.mono,tQ⟩) ?_;rintro⟨ga,gc⟩ -;refine Aa 1 [] (λ_=>Az [0,1] C<|Ah C ?_ Aj);refine P9 (XX:=λ_ _=>False) C C (eC bW C C) (λw f D=>(YB 10000 w f D.vl sb mb s fr D.res ⟨(D.mi sb (.inl C)).2.1,(D.mi mb (.inr C)).2.1⟩ J hw (Nat.le_refl _) t u ha hc ga gc K L D.f1 D.f0).retP) (λ_=>(BP.stab (.inl C) (.inr C))) (λ_=>trivial) (λ_ _ _ _ _ h=>h.elim) ?_;rintro⟨cd,s3,Q⟩ ⟨G,O⟩;exact Aa 1 [] (λ_=>Az [0,1] C<|A9 1 [] (λ_=>Bx<|Aa 2 [] (λ_=>Bc (DE C C) (λw f D=>⟨(cd,s3,Q),f,C,⟨λb h=>(by rw[DY,SH] at h;cases F:GU 10000 s t.one u.one with|error e=>rw[F] at h;cases h|ok z=>rw[F] at h;cases h;exact⟨(G z F).1,(G z F).2.1,(G z F).2.2.2⟩),λe h=>(by rw[DY,SH] at h;cases F:GU 10000 s t.one u.one with|error e=>rw[F] at h;cases h;exact O _ F|ok z=>rw[F] at h;cases h)⟩,D.exm,D.res,tQ⟩))))
theorem TU(w:wO)(f:Fq)(D:Vl w f)  :
  BF prog 57 #[.slice none 0 0] w (Ce (α:=Unit) (λ_=>.slice none 0 0) (λ_=>True) (λ_=>[]) w f):=by
 refine Df (X:=X0 w f) (H:=[]) (R:=[]) (B:=[]) (Fs:=[]) (f:=f) func57 C C C (CC D tQ tQ)<|Aa 12 [] (λ_=>Bb 4 C C (λh=>?_) (λh=>?_));exact Aa 8 [] (λ_=>Bc (DE C C) (λw f F=>⟨(),f,C,tQ,F.exm,tQ⟩))
 cases h
theorem Bu(w:wO)(f:Fq)(D:Vl w f)(tx:lU) :
  BF prog 35 #[S tx,.slice none 0 0] w (Ce (α:=Unit) (λ_=>tV (.con tx .nil) none 0) (λ_=>True) (λ_=>[]) w f):=by
 refine Df (X:=X0 w f) (H:=[]) (R:=[]) (B:=[]) (Fs:=[]) (f:=f) func35 C C C (CC D tQ tQ)<|Aa 9 [] (λb1=>λ_=>BA C C (eC bL C C) (λw f h=>TU w f h.vl) (λx=>trivial) ?_);rintro⟨⟩ -;exact Aa 5 [0] (y<|λ_=>Bc (λw f h=>AG C (Ae C AZ h.k0 C)) (λw f h=>⟨(),f,C,tQ,h.exm,tQ⟩))
theorem YQ(k:Nat)(ih:∀j,j<k→pD prog 94 140 j)(w:wO)(f:Fq)(hv:Vl w f)(sb mb:Nat)(s:Bk)(fr pr:Int)(hS:BP 140 sb mb s fr pr w f)(hw:Jl s)(t:T1)(a:oA)(c jj:Nat)(hb:t.bnd)(hT:Ai w f t.kids a c)(J:B9 s k t.one=some jj) :
  BF prog 94 #[pB sb,tV t a c] w (Ce (α:=oA×Nat) (λx=>tV (AE s k t.one).hd x.1 x.2) (λ_=>True) (λx=>[λw f=>Ai w f (AE s k t.one).hd.kids x.1 x.2]) w f):=by
 have hkb:=(CB hw hb).1;refine Df (X:=X0 w f) (H:=[]) (R:=[]) (B:=[]) (Fs:=[λw f=>Ai w f t.kids a c]) (f:=f) func94 C C C (CC hv ⟨hT,tQ⟩ ⟨Ai.mono,tQ⟩)<|Aa 10 [1] (λb1=>λb2=>y<|λ_=>BA C C (eC GN C C) (λw f D=>Ep w f D.vl sb mb s fr pr (BP.keep hS D.exm D.ent (λh=>h) (λh=>h)) hw t a c hb D.f0) (λx=>⟨Ai.mono,tQ⟩) ?_);rintro⟨ha,hc⟩ -;refine Aa 5 [1] (y<|λ_=>?_);obtain⟨k2,rfl⟩:∃q,k=q+1:=by cases k with|zero=>rw[LJ] at J;cases J|succ q=>exact⟨q,C⟩
 rw[Kn] at J;refine Aa 6 [1] (y<|λ_=>Bb 13 C C (λh1=>?_) (λh1=>?_));refine Aa 5 [1] (y<|λ_=>BA C C (eC Hr C C) (λw f D=>Ej w f D.vl (Af s t).num) (λx=>trivial) ?_);rintro⟨⟩ -;refine Aa 5 [0] (y<|λ_=>?_);obtain⟨n,hn⟩:=EJ h1;have F:(AE s (k2+1) t.one).hd=.var n:=by rw[OY,hn]
 exact Bc (λw f D=>AG C (Ae C AZ D.k0 C)) (λw f D=>⟨(none,0),f,(by rw[F,hn];rfl),tQ,D.exm,⟨by rw[F];exact Ai.nil _ _ _ _,tQ⟩⟩);refine Aa 7 [1] (y<|λ_=>BA C C (eC B4 C C) (λw f D=>Bu w f D.vl (Af s t).tx) (λx=>trivial) ?_);rintro⟨⟩ -;refine Aa 14 [0,2] (λb3=>y<|y<|λ_=>So 68 4 ?_);refine HE (α:=Nat×Ty×Ty×lV×oA×Nat×Nat) (λx=>x.2.1.len) (λx=>x.1+x.2.1.len=(Af s t).kids.len∧x.2.2.1.len=x.1∧AE s k2 (Af s t).kids=x.2.2.1.app (AE s x.2.2.2.2.2.2 x.2.1)∧B9 s x.2.2.2.2.2.2 x.2.1=some jj∧x.2.2.2.2.2.2≤k2∧x.2.1.bnd) (λx=>(E7 0 (pB sb) 3 (pB b1) 4 (pB b2) 5 (pB b3) 21 (.slice ha (Af s t).kids.len hc) 22 (iV ((Af s t).kids.len:Int)) 23 (iV (x.1:Int)))) (λx=>X0 w f) (λx=>[⟨b3,[iV 1,iV 0,S (Af s t).tx,.slice x.2.2.2.2.1 x.1 x.2.2.2.2.2.1],68,true⟩,⟨b2,zT,68,true⟩,⟨b1,tC (Af s t) ha hc,68,true⟩]) (λx=>[⟨68,4,x.2.2.2.2.1,x.2.2.2.2.2.1,x.1,x.2.2.2.1⟩]) (λx=>[]) (λx=>[λw f=>Cc w f ha x.1 x.2.1,λw f=>Bn w f x.2.2.1 x.2.2.2.1]) (0,(Af s t).kids,.nil,[],none,0,k2) ⟨by simp,C,C,J,Nat.le_refl _,(CB hw hb).2⟩ lE (λw f D=>D.more (B':=[]) (F':=[λw f=>Cc w f ha 0 (Af s t).kids,λw f=>Bn w f .nil []]) nE (AM.mem ⟨Ai.at D.f0,C,tQ⟩) (A2.mem ⟨Cc.mono,Bn.mono,tQ⟩) |>.less sR sR nE (mR [0,1])) ?_;rintro⟨i,r,K,xs,ra,rc,j⟩ ⟨hi,L,hk,O,hjk,Q⟩;dsimp only at hi L hk O hjk Q ⊢;refine Aa 6 [] (λ_=>Bb 24 C C (λh2=>?_) (λh2=>?_));refine Aa 6 [] (λ_=>?_);have hil:i<(Af s t).kids.len:=by have:=dT h2;omega
 obtain⟨t2,r,rfl⟩:=Ty.cases1 r oM;rw[T1.len_cons] at hi;obtain⟨j2,G,U⟩:∃j2,B9 s j t2.one=some j2∧B9 s j2 r=some jj:=by rw[Jt] at O;cases hx:B9 s j t2.one with|none=>rw[hx] at O;cases O|some q=>rw[hx] at O;exact⟨q,C,O⟩
 refine ZJ 0 C ?_;rintro⟨eb,eo,ka,kc⟩ rfl;refine Aa 7 [100,0,0] (aI oM<|y2<|λb4=>y<|λ_=>Dh [0,2,3] Aq (rd [0,2,3] (.br 1 (.br 4 (.br 5 (.br 6 (.rd 7 (.br 8 .fin .fin)) .fin) .fin) .fin) (.br 4 (.br 1 (.br 5 (.br 6 (.rd 7 (.br 8 .fin .fin)) .fin) .fin) (.br 5 (.br 1 (.br 6 (.rd 7 (.br 8 .fin .fin)) .fin) .fin) .fin)) .fin))) C kR<|A9 3 [0] (y<|λ_=>Ah C ?_ ?_));refine Aa 2 [1] (y<|λ_=>Az [0,2,3] C<|Ah C ?_ Aj);refine BA C C (eC Vi C C) (λw f D=>ih j oM w f D.vl sb mb s fr pr (BP.keep hS D.exm D.ent (λh=>h) (λh=>h)) hw t2 ka kc j2 (T1.bnd_cons.1 Q).1 D.f0 G) (λx=>⟨Ai.mono,tQ⟩) ?_;rintro⟨a2,c2⟩ -;refine Aa 1 [] (λ_=>Az [0,2,3] C<|Ah C ?_ Aj);refine Aa 2 [] (λb5=>λ_=>Az [1,3,4] C<|Ah C ?_ Aj);refine DI 0 0 C C Dq C C C C C C C C (λ_ _=>C) oM oM λW Y=>Aa 1 [] (λ_=>Az [1,3,4] C<|A9 1 [] (λ_=>Ah C ?_ Aj));exact Aa 2 [2] (y<|λ_=>Az [1,3,4] C<|Bx<|Aa 6 [] (aI ⟨oM,oM⟩<|λ_=>DW ((i+1,r,K.snoc (AE s j t2.one).hd,xs++tC (AE s j t2.one).hd a2 c2,W,Y,j2)) (show r.len<(t2.cons r).len by rw[T1.len_cons];omega) ⟨show i+1+r.len=_ by omega,show (K.snoc _).len=i+1 by rw[Ty.len_snoc,L],show AE s k2 _=(K.snoc _).app (AE s j2 r) by rw[hk,MJ G U,Ty.snoc_app],U,show j2≤k2 by have:=EH s _ _ _ G;omega,(T1.bnd_cons.1 Q).2⟩ lE (λw f D=>⟨_,(D.more (B':=[]) (F':=[λw f=>Bn w f (K.snoc (AE s j t2.one).hd) (xs++tC (AE s j t2.one).hd a2 c2)]) nE (AM.mem ⟨Bn.snoc D.f0 D.f4,tQ⟩) (A2.mem ⟨Bn.mono,tQ⟩)).less (.cons _ (.cons _ sR)) sR nE (mR [3,0])⟩)));refine Ah C ?_ Aj;refine BA C C (eC Vi C C) (λw f D=>ih j oM w f D.vl sb mb s fr pr (BP.keep hS D.exm D.ent (λh=>h) (λh=>h)) hw t2 ka kc j2 (T1.bnd_cons.1 Q).1 D.f0 G) (λx=>⟨Ai.mono,tQ⟩) ?_;rintro⟨a2,c2⟩ -;refine Aa 1 [] (λ_=>Az [0,2,3] C<|Ah C ?_ ?_);refine Aa 2 [1] (y<|λ_=>Az [0,2,3] C<|Ah C ?_ Aj);refine Aa 2 [] (λb6=>λ_=>Az [1,3,4] C<|Ah C ?_ Aj);refine DI 0 0 C C Dq C C C C C C C C (λ_ _=>C) oM oM λW Y=>Aa 1 [] (λ_=>Az [1,3,4] C<|A9 1 [] (λ_=>Ah C ?_ Aj));exact Aa 2 [2] (y<|λ_=>Az [1,3,4] C<|Bx<|Aa 6 [] (aI ⟨oM,oM⟩<|λ_=>DW ((i+1,r,K.snoc (AE s j t2.one).hd,xs++tC (AE s j t2.one).hd a2 c2,W,Y,j2)) (show r.len<(t2.cons r).len by rw[T1.len_cons];omega) ⟨show i+1+r.len=_ by omega,show (K.snoc _).len=i+1 by rw[Ty.len_snoc,L],show AE s k2 _=(K.snoc _).app (AE s j2 r) by rw[hk,MJ G U,Ty.snoc_app],U,show j2≤k2 by have:=EH s _ _ _ G;omega,(T1.bnd_cons.1 Q).2⟩ lE (λw f D=>⟨_,(D.more (B':=[]) (F':=[λw f=>Bn w f (K.snoc (AE s j t2.one).hd) (xs++tC (AE s j t2.one).hd a2 c2)]) nE (AM.mem ⟨Bn.snoc D.f0 D.f4,tQ⟩) (A2.mem ⟨Bn.mono,tQ⟩)).less (.cons _ (.cons _ sR)) sR nE (mR [3,0])⟩)));refine Ah C ?_ Aj;refine Aa 2 [] (λb7=>λ_=>Az [1,3,4] C<|Ah C ?_ Aj);refine Aa 2 [2] (y<|λ_=>Az [1,3,4] C<|Ah C ?_ Aj)
 refine DI 0 0 C C Dq C C C C C C C C (λ_ _=>C) oM oM λW Y=>Aa 1 [] (λ_=>Az [1,3,4] C<|A9 1 [] (λ_=>Ah C ?_ Aj));exact Aa 2 [2] (y<|λ_=>Az [1,3,4] C<|Bx<|Aa 6 [] (aI ⟨oM,oM⟩<|λ_=>DW ((i+1,r,K.snoc (AE s j t2.one).hd,xs++tC (AE s j t2.one).hd a2 c2,W,Y,j2)) (show r.len<(t2.cons r).len by rw[T1.len_cons];omega) ⟨show i+1+r.len=_ by omega,show (K.snoc _).len=i+1 by rw[Ty.len_snoc,L],show AE s k2 _=(K.snoc _).app (AE s j2 r) by rw[hk,MJ G U,Ty.snoc_app],U,show j2≤k2 by have:=EH s _ _ _ G;omega,(T1.bnd_cons.1 Q).2⟩ lE (λw f D=>⟨_,(D.more (B':=[]) (F':=[λw f=>Bn w f (K.snoc (AE s j t2.one).hd) (xs++tC (AE s j t2.one).hd a2 c2)]) nE (AM.mem ⟨Bn.snoc D.f0 D.f4,tQ⟩) (A2.mem ⟨Bn.mono,tQ⟩)).less (.cons _ (.cons _ sR)) sR nE (mR [3,0])⟩)));refine Aa 3 [] (λ_=>GP<|Aa 9 [0,1] (y<|y<|λ_=>?_));obtain rfl:r=.nil:=Ty.len0 (by have:=dF h2;omega);rw[HA,Ty.app_nil] at hk;obtain⟨tx,ka,Z⟩:=FY h1;have F:(AE s (k2+1) t.one).hd=.con tx K:=by rw[OY,Z,← hk,Z];rfl
 have htx:(Af s t).tx=tx:=by rw[Z];rfl
 rcases Nat.eq_zero_or_pos K.len with h0|h0
 · exact Bc (λw f D=>AG C (Ae C AZ D.k1 C)) (λw f D=>⟨(ra,rc),f,(by rw[F,htx,← L];rfl),tQ,D.exm,⟨by rw[F];obtain rfl:=Ty.len0 h0;exact Ai.nil _ _ _ _,tQ⟩⟩)
 · exact Bc (λw f D=>AG C (Ae C AZ D.k1 C)) (λw f D=>let ⟨f2,hM2,hF⟩:=OQ D D.f1 h0;⟨(ra,rc),f2,(by rw[F,htx,← L];rfl),tQ,hM2.exm,⟨by rw[F];exact hF,tQ⟩⟩)
theorem Wq(k:Nat):pD prog 94 140 k:=Nat.strongRecOn k λk h w f D sb mb s fr pr F hw t a c j G J K=>YQ k h w f D sb mb s fr pr F hw t a c j G J K
theorem Kx(w:wO)(f:Fq)(O:Vl w f)(sb mb:Nat)(s:Bk)(fr pr:Int)(J:BP 140 sb mb s fr pr w f)(hw:Jl s)(t:T1)(a:oA)(c:Nat)(K:t.bnd)(Q:Ai w f t.kids a c) :
  BF prog 65 #[pB sb,tV t a c] w (Ce (α:=oA×Nat) (λx=>.tuple #[tV ((fullS s t).getD (.var 0)) x.1 x.2,iV (if (fullS s t).isSome then 0 else 4)]) (λ_=>True) (λx=>[λw f=>Ai w f ((fullS s t).getD (.var 0)).kids x.1 x.2]) w f):=by
 refine Df (X:=X0 w f) (H:=[]) (R:=[]) (B:=[]) (Fs:=[λw f=>Ai w f t.kids a c]) (f:=f) func65 C C C (CC O ⟨Q,tQ⟩ ⟨Ai.mono,tQ⟩)<|Aa 21 [1] (λb1=>λb2=>y<|λ_=>BA C C (eC ZT C C) (λw f D=>OX w f D.vl sb mb s fr pr (BP.keep J D.exm D.ent (λh=>h) (λh=>h)) hw t a c K D.f0) (λx=>trivial) ?_);rintro⟨⟩ -;refine Aa 4 [] (λ_=>Bb 10 C C (λF=>?_) (λF=>?_));replace F:=FM F;refine Aa 11 [0] (y<|λ_=>?_);have G:fullS s t=none:=by rw[fullS,F];rfl
 exact Bc (λw f D=>C7 C (Ae C AZ D.k0 C) (Al C)) (λw f D=>⟨(none,0),f,(by rw[G];rfl),tQ,D.exm,⟨by rw[G];exact Ai.nil _ _ _ _,tQ⟩⟩);replace F:=Gt F;refine Aa 8 [1] (y<|λ_=>?_);obtain⟨j,U⟩:∃j,B9 s 1000 t.one=some j:=by have L:=F;rw[D0,DA] at L;exact Option.isSome_iff_exists.1 L
 refine BA C C (eC Vi C C) (λw f D=>Wq 1000 w f D.vl sb mb s fr pr (BP.keep J D.exm D.ent (λh=>h) (λh=>h)) hw t a c j K D.f0 U) (λx=>⟨Ai.mono,tQ⟩) ?_;rintro⟨a2,c2⟩ -;refine Aa 5 [0] (y<|λ_=>?_);have G:fullS s t=some (AE s 1000 t.one).hd:=by rw[fullS,if_pos F]
 exact Bc (λw f D=>C7 C (Ae C AZ D.k0 C) (Al C)) (λw f D=>⟨(a2,c2),f,(by rw[G];rfl),tQ,D.exm,⟨by rw[G];exact D.f0,tQ⟩⟩)
theorem Z3(m:Nat)(ih:pH prog 52 m)(w:wO)(f:Fq)(hv:Vl w f)(l:List Int)(L:oA)(lc:Nat)(D:Ty)(O:oA)(yc:Nat)(hl:l.length≤1000000)(hyl:D.len≤200000)(hyb:D.bnd)(hI:Ci w f l L lc)(hY:Ai w f D O yc)(t:T1)(a:oA)(c:Nat)(hm:t.kids.size<m+1)(K:t.bnd)(hT:Ai w f t.kids a c) :
  BF prog 52 #[tV t a c,.slice L l.length lc,.slice O D.len yc] w (Ce (α:=oA×Nat) (λx=>tV (Cf t l D) x.1 x.2) (λ_=>True) (λx=>[λw f=>Ai w f (Cf t l D).kids x.1 x.2]) w f):=by
 have hbl:=K.1;refine Df (X:=X0 w f) (H:=[]) (R:=[]) (B:=[]) (Fs:=[λw f=>Ai w f t.kids a c,λw f=>Ci w f l L lc,λw f=>Ai w f D O yc]) (f:=f) func52 C C C (CC hv ⟨hT,hI,hY,tQ⟩ ⟨Ai.mono,Ci.mono,Ai.mono,tQ⟩)<|Aa 14 [1] (λb1=>λb2=>y<|λ_=>Bb 13 C C (λQ=>?_) (λQ=>?_));refine Aa 7 [1] (y<|λ_=>BA C C (eC dE C C) (λw f h=>MY w f h.vl l L lc t.num hl h.f1) (λx=>trivial) ?_);rintro⟨⟩ -;refine Aa 8 [] (λ_=>Bb 20 C C (λh2=>?_) (λh2=>?_));refine Aa 7 [] (λ_=>Bb 25 C C (λh3=>?_) (λh3=>?_));refine Aa 2 [] (λ_=>?_);obtain⟨i,hix⟩:∃i,C1 l t.num=some i:=by cases hx:C1 l t.num with|some i=>exact⟨i,C⟩|none=>have J:=dT h2;simp only[ZH,hx] at J;omega
 have G:ZH l t.num=i:=by rw[ZH,hix]
 obtain⟨t2,U⟩:=UT (k:=D) (i:=i) (by have J:=dT h3;rw[G] at J;omega);refine Nq (α:=Nat×Nat×oA×Nat) (λx=>O=some ⟨x.1,x.2.1,none⟩) (λx=>[⟨x.1,x.2.1+i*4,tC t2 x.2.2.1 x.2.2.2⟩]) (λx=>[λw f=>Ai w f t2.kids x.2.2.1 x.2.2.2]) (λw f h=>let ⟨b,off,ka,kc,Q,h2,h3⟩:=Ai.nth h.f2 U;⟨(b,off,ka,kc),Q,(oE h2),AM.mem ⟨h3,tQ⟩⟩) (λx=>A2.mem ⟨Ai.mono,tQ⟩) ?_;rintro⟨eb,eo,ka,kc⟩ rfl;have hil:i<D.len:=by have J:=dT h3;rw[G] at J;omega
 rw[G];refine Aa 5 [100,0] (aI oM<|y2<|λ_=>BA C C (eC Rj C C) (λw f h=>Ou w f h.vl t2 ka kc (HP hyb U) h.f0) (λx=>⟨Ai.mono,tQ⟩) ?_);rintro⟨a2,c2⟩ -;refine Aa 6 [0] (y<|λ_=>?_);obtain⟨n,rfl⟩:=EJ Q;have F:Cf (.var n) l D=t2:=by rw[Ot,show C1 l n=some i from hix];show (D.get i).getD _=t2;rw[U];rfl
 exact Bc (λw f h=>AG C (Ae C AZ h.k0 C)) (λw f h=>⟨(a2,c2),f,(by rw[F]),tQ,h.exm,⟨by rw[F];exact h.f0,tQ⟩⟩);refine Aa 11 [1,0] (y<|y<|λ_=>?_);obtain⟨n,rfl⟩:=EJ Q
 have F:Cf (.var n) l D=.var n:=by
  rw[Ot]
  cases hx:C1 l n with
  |none=>rfl
  |some i=>show (D.get i).getD _=_;rw[bG (by have J:=dF h3;rw[show ZH l (T1.num (.var n))=i by simp only[T1.num,ZH,hx]] at J;omega)];rfl
 exact Bc (λw f h=>AG C (Ae C AZ h.k0 C)) (λw f h=>⟨(a,c),f,(by rw[F]),tQ,h.exm,⟨by rw[F];exact Ai.mono _ _ _ _ hT h.ent,tQ⟩⟩);refine Aa 18 [1,0] (y<|y<|λ_=>?_);obtain⟨n,rfl⟩:=EJ Q
 have F:Cf (.var n) l D=.var n:=by
  rw[Ot]
  cases hx:C1 l n with
  |none=>rfl
  |some i=>have J:=dF h2;rw[show ZH l (T1.num (.var n))=i by simp only[T1.num,ZH,hx]] at J;omega
 exact Bc (λw f h=>AG C (Ae C AZ h.k0 C)) (λw f h=>⟨(a,c),f,(by rw[F]),tQ,h.exm,⟨by rw[F];exact Ai.mono _ _ _ _ hT h.ent,tQ⟩⟩);refine Aa 8 [1] (y<|λ_=>mmk C C Dq C C C C (by have:=K.1;omega) (by have:=K.1;unfold maxLen;omega) λW=>Aa 13 [1] (y<|λ_=>?_));refine HE (α:=Nat×Ty×Ty×lV) (λx=>x.2.1.len) (λx=>x.1+x.2.1.len=t.kids.len∧x.2.2.1.len=x.1∧C2 l D t.kids=x.2.2.1.app (C2 l D x.2.1)∧x.2.1.bnd∧x.2.1.size≤t.kids.size) (λx=>(E8 1 (.slice L l.length lc) 2 (.slice O D.len yc) 3 (pB b1) 6 (pB b2) 8 (.slice (some ⟨W,0,none⟩) t.kids.len t.kids.len) 37 (.slice a t.kids.len c) 38 (iV (t.kids.len:Int)) 39 (iV (x.1:Int)))) (λx=>X0 w f) (λx=>[⟨b2,zT,68,true⟩,⟨b1,tC t a c,68,true⟩]) (λx=>[⟨68,4,some ⟨W,0,none⟩,t.kids.len,t.kids.len,x.2.2.2++Gs x.2.1.len zT⟩]) (λx=>[]) (λx=>[λw f=>Cc w f a x.1 x.2.1,λw f=>Bn w f x.2.2.1 x.2.2.2,λw f=>Ci w f l L lc,λw f=>Ai w f D O yc]) (0,t.kids,.nil,[]) ⟨by simp,C,C,K.2,Nat.le_refl _⟩ lE (λw f h=>h.more (B':=[]) (F':=[λw f=>Cc w f a 0 t.kids,λw f=>Bn w f .nil []]) nE (AM.mem ⟨Ai.at h.f0,C,tQ⟩) (A2.mem ⟨Cc.mono,Bn.mono,tQ⟩) |>.less sR sR nE (mR [0,1,3,4])) ?_;rintro⟨i,r,Y,xs⟩ ⟨hi,Z,hk,hb,hs⟩;dsimp only at hi Z hk hb hs ⊢;refine Aa 6 [] (λ_=>Bb 40 C C (λh4=>?_) (λh4=>?_));refine Aa 6 [] (λ_=>?_);have hil:i<t.kids.len:=by have:=dT h4;omega
 obtain⟨t2,r,rfl⟩:=Ty.cases1 r oM;rw[T1.len_cons] at hi;refine ZJ 0 C ?_;rintro⟨eb,eo,ka,kc⟩ rfl;refine Aa 15 [100,0,0,0] (aI oM<|y2<|λb3=>y<|y<|λ_=>BA C C (eC D5 C C) (λw f h=>ih w f h.vl l L lc D O yc hl hyl hyb h.f4 h.f5 t2 ka kc (by have:=T1.size_cons t2 r;omega) (T1.bnd_cons.1 hb).1 h.f0) (λx=>⟨Ai.mono,tQ⟩) ?_);rintro⟨a2,c2⟩ -;refine Aa 1 [] (aI oM<|λ_=>KH (λw f h=>Bn.len h.f4) λhxl=>?_);rw[Z] at hxl;exact mrs 0 ((xs++tC (Cf t2 l D) a2 c2)++Gs r.len zT) C C C C AZ C C C (by simp only[Nat.zero_add,List.length_cons,List.length_nil,Int.toNat_natCast];omega) (by rw[Nat.zero_add,Int.toNat_natCast,← hxl,T1.len_cons,Gs];exact T4 _ _ _ _ C) C<|Aa 7 [] (aI ⟨oM,oM⟩<|λ_=>DW ((i+1,r,Y.snoc (Cf t2 l D),xs++tC (Cf t2 l D) a2 c2)) (show r.len<(t2.cons r).len by rw[T1.len_cons];omega) ⟨show i+1+r.len=t.kids.len by omega,show (Y.snoc _).len=i+1 by rw[Ty.len_snoc,Z],show C2 l D t.kids=(Y.snoc _).app (C2 l D r) by rw[hk,Q2,Ty.snoc_app],(T1.bnd_cons.1 hb).2,show r.size≤t.kids.size by have:=T1.size_cons t2 r;omega⟩ lE (λw f h=>⟨_,(h.more (B':=[]) (F':=[λw f=>Bn w f (Y.snoc (Cf t2 l D)) (xs++tC (Cf t2 l D) a2 c2)]) nE (AM.mem ⟨Bn.snoc h.f0 h.f4,tQ⟩) (A2.mem ⟨Bn.mono,tQ⟩)).less (.cons _ sR) sR nE (mR [3,0,6,7])⟩));refine Aa 3 [] (λ_=>GP<|Aa 3 [] (λ_=>?_));obtain rfl:r=.nil:=Ty.len0 (by have:=dF h4;omega);rw[show C2 l D .nil=.nil from C,Ty.app_nil] at hk;refine pW 0 C C<|Aa 13 [1,1,0] (y<|y<|y<|λ_=>?_);obtain⟨tx,kk,rfl⟩:=FY Q;have F:Cf (.con tx kk) l D=.con tx Y:=by rw[aF];exact congrArg _ hk
 have hdk:Y.len=kk.len:=by have J:i+0=kk.len:=hi;omega
 exact Bc (λw f h=>AG C (Ae C AZ h.k0 C)) (λw f h=>⟨(some ⟨W,0,none⟩,kk.len),f,(by rw[F];show _=Value.agg #[_,_,_,.slice _ Y.len _];rw[hdk];rfl),tQ,h.exm,⟨by rw[F];exact Bn.toF h.f1 (by have:=h.b0;simpa[Gs,Ty.len] using this) (Nat.le_of_eq hdk),tQ⟩⟩)
theorem BJ(w:wO)(f:Fq)(K:Vl w f)(l:List Int)(F:oA)(lc:Nat)(D:Ty)(G:oA)(J:Nat)(Q:l.length≤1000000)(L:D.len≤200000)(O:D.bnd)(U:Ci w f l F lc)(W:Ai w f D G J)(t:T1)(a:oA)(c:Nat)(Y:t.bnd)(Z:Ai w f t.kids a c) :
  BF prog 52 #[tV t a c,.slice F l.length lc,.slice G D.len J] w (Ce (α:=oA×Nat) (λx=>tV (Cf t l D) x.1 x.2) (λ_=>True) (λx=>[λw f=>Ai w f (Cf t l D).kids x.1 x.2]) w f) :=
 Ns (p:=pH prog 52) (λw f K l F lc D G J _ _ _ _ _ t a c h=>by omega) (λm ih w f K l F lc D G J h1 h2 h3 h4 h5 t a c h6 h7 h8=>Z3 m ih w f K l F lc D G J h1 h2 h3 h4 h5 t a c h6 h7 h8) (t.kids.size+1) w f K l F lc D G J Q L O U W t a c (Nat.lt_succ_self _) Y Z
theorem Y2(m:Nat)(ih:oY prog 89 97 m)(w:wO)(f:Fq)(hv:Vl w f)(ob mb:Nat)(oa:oA)(oc:Nat)(l:List Int)(hV:RM 97 ob mb oa oc l w f)(hf:∀b,N6 ob mb oa b→f b=0)(t:T1)(a:oA)(c:Nat)(hm:t.kids.size<m+1)(hsz0:t.kids.size+1+l.length≤1000000)(W:t.bnd)(hT:Ai w f t.kids a c) :
  BF prog 89 #[tV t a c,.map (some mb),pB ob] w (P4 (α:=oA×Nat) (λ_=>.tuple #[]) (λ_=>True) (N6 ob mb oa) (λx=>N6 ob mb x.1) (λx=>RM 97 ob mb x.1 x.2 (BZ t.one l)) (λ_=>[]) w f):=by
 have hbl:=W.1;refine Df (X:=⟨N6 ob mb oa,N6 ob mb oa,RM 97 ob mb oa oc l,w,f⟩) (H:=[]) (R:=[]) (B:=[]) (Fs:=[λw f=>Ai w f t.kids a c]) (f:=f) func89 C C C (cI (M:=N6 ob mb oa) hv hV Ek.stab (λb J=>⟨hV.lt J,hf b J⟩) ⟨hT,tQ⟩ ⟨Ai.mono,tQ⟩)<|Aa 13 [0] (λb1=>y<|λ_=>Bb 10 C C (λL=>?_) (λL=>?_));refine Aa 7 [0] (y<|λ_=>FJ C C (λw f D=>Ow (K:=Fu) (a:=t.num) C C Ox P8 kH D.res.map (Ln D.res.nd) (Yn t.num l))<|Aa 3 [] (λ_=>Bb 15 C C (λF=>?_) (λF=>?_)));replace F:=FM F;refine Aa 6 [0] (y<|λ_=>iT (K:=Fu) (a:=t.num) (l:=HN l) (I':=Ek 97 ob mb (.slice oa l.length oc) (l++[t.num]) oa oc l) C C C C Ox P8 (.inr (.inl C)) (Ln hV.nd) (Xn F) (λw f h=>h.map) (λw f w2 h D Y hm=>Ek.mapped h Y hm F) Ek.stab<|Aa 2 [] (λ_=>Dh [0] Aq (rd [0,1,2,4,5] (.br 3 (.br 6 (.br 7 (.rd 8 (.br 9 .fin .fin)) .fin) .fin) (.br 6 (.br 3 (.br 7 (.rd 8 (.br 9 .fin .fin)) .fin) .fin) .fin))) C kR<|A9 5 [0] (y<|λ_=>Ah C ?_ ?_)));refine FJ C C (λw f D=>Am C QB D.res.blk C)<|Aa 1 [] (λ_=>Az [0] C<|Ah C ?_ Aj);refine Aa 2 [] (λb2=>λ_=>Az [1] C<|Ah C ?_ Aj);refine TQ (MI':=N6 ob mb) (I':=λa' c'=>Ek 97 ob mb (.slice oa l.length oc) (l++[t.num]) a' c' (l++[t.num])) 0 C C MZ C C C C C C C oM oM (λw f h=>h.row) (λb h=>.inr (.inr h)) (λ_ _ h=>N6.or h) (λw f w2 a2 c2 h D hr hG=>Ek.app h hr hG) (λ_ _=>Ek.stab) λa2 c2=>Aa 1 [] (λ_=>Az [1] C<|A9 1 [] (λ_=>Ah C ?_ Aj));refine iP (b:=ob) (I':=Ek 97 ob mb (.slice a2 (l.length+1) c2) (l++[t.num]) a2 c2 (l++[t.num])) C C C C QB C C C (.inl C) (λw f h=>h.blk) (λw f w2 h D Y J=>Ek.store h Y J) Ek.stab<|Aa 1 [] (λ_=>Az [1] C<|Bx<|Aa 3 [] (λ_=>?_));obtain⟨n,rfl⟩:=EJ L;have G:BZ (T1.var n).one l=l++[n]:=by rw[OJ,if_neg (by rw[show l.contains n=false from F];decide)]
 exact Bc (λw f D=>DZ C) (λw f D=>⟨(a2,c2),f,C,tQ,D.exm,(λb J=>let ⟨L,F,O⟩:=D.mi b J;O.elim (λh=>.inr ⟨h,L,F⟩) .inl),(by rw[G];have Z:=D.res;rw[show l.length+1=(l++[n]).length by simp] at Z;exact Z),tQ⟩);refine Ah C ?_ Aj;refine Aa 2 [] (λb3=>λ_=>Az [1] C<|Ah C ?_ Aj);refine FJ C C (λw f D=>Am C QB D.res.blk C)<|Aa 1 [] (λ_=>Az [1] C<|Ah C ?_ Aj);refine TQ (MI':=N6 ob mb) (I':=λa' c'=>Ek 97 ob mb (.slice oa l.length oc) (l++[t.num]) a' c' (l++[t.num])) 0 C C MZ C C C C C C C oM oM (λw f h=>h.row) (λb h=>.inr (.inr h)) (λ_ _ h=>N6.or h) (λw f w2 a2 c2 h D hr hG=>Ek.app h hr hG) (λ_ _=>Ek.stab) λa2 c2=>Aa 1 [] (λ_=>Az [1] C<|A9 1 [] (λ_=>Ah C ?_ Aj));refine iP (b:=ob) (I':=Ek 97 ob mb (.slice a2 (l.length+1) c2) (l++[t.num]) a2 c2 (l++[t.num])) C C C C QB C C C (.inl C) (λw f h=>h.blk) (λw f w2 h D Y J=>Ek.store h Y J) Ek.stab<|Aa 1 [] (λ_=>Az [1] C<|Bx<|Aa 3 [] (λ_=>?_));obtain⟨n,rfl⟩:=EJ L;have G:BZ (T1.var n).one l=l++[n]:=by rw[OJ,if_neg (by rw[show l.contains n=false from F];decide)]
 exact Bc (λw f D=>DZ C) (λw f D=>⟨(a2,c2),f,C,tQ,D.exm,(λb J=>let ⟨L,F,O⟩:=D.mi b J;O.elim (λh=>.inr ⟨h,L,F⟩) .inl),(by rw[G];have Z:=D.res;rw[show l.length+1=(l++[n]).length by simp] at Z;exact Z),tQ⟩);replace F:=Gt F;refine Aa 5 [] (λ_=>?_);obtain⟨n,rfl⟩:=EJ L;have G:BZ (T1.var n).one l=l:=by rw[OJ];exact if_pos F
 exact Bc (λw f D=>DZ C) (λw f D=>⟨(oa,oc),f,C,tQ,D.exm,(λb J=>let ⟨L,F,O⟩:=D.mi b J;O.elim (λh=>.inr ⟨h,L,F⟩) .inl),(by rw[G];exact D.res),tQ⟩);refine Aa 12 [0] (y<|λ_=>?_);refine HE (α:=Nat×Ty×List Int×oA×Nat) (λx=>x.2.1.len) (λx=>x.1+x.2.1.len=t.kids.len∧BZ t.kids l=BZ x.2.1 x.2.2.1∧x.2.1.bnd∧x.2.1.size+x.2.2.1.length≤1000000∧x.2.1.size≤t.kids.size) (λx=>(E6 1 (.map (some mb)) 2 (pB ob) 3 (pB b1) 29 (.slice a t.kids.len c) 30 (iV (t.kids.len:Int)) 31 (iV (x.1:Int)))) (λx=>⟨N6 ob mb oa,N6 ob mb x.2.2.2.1,RM 97 ob mb x.2.2.2.1 x.2.2.2.2 x.2.2.1,w,f⟩) (λx=>[⟨b1,tC t a c,68,true⟩]) (λx=>[]) (λx=>[]) (λx=>[λw f=>Cc w f a x.1 x.2.1]) (0,t.kids,l,oa,oc) ⟨by simp,C,W.2,(by show t.kids.size+l.length≤1000000;omega),Nat.le_refl _⟩ lE (λw f D=>D.more (B':=[]) (F':=[λw f=>Cc w f a 0 t.kids]) nE (AM.mem ⟨Ai.at D.f0,tQ⟩) (A2.mem ⟨Cc.mono,tQ⟩) |>.less sR sR nE (mR [0])) ?_;rintro⟨i,r,U,oa2,oc2⟩ ⟨hi,hk,Q,hsz,hs⟩;dsimp only at hi hk Q hsz hs ⊢;refine Aa 6 [] (λ_=>Bb 32 C C (λO=>?_) (λO=>?_));refine Aa 6 [] (λ_=>?_);have hil:i<t.kids.len:=by have:=dT O;omega
 obtain⟨t2,r,rfl⟩:=Ty.cases1 r oM;rw[T1.len_cons] at hi;refine ZJ 0 C ?_;rintro⟨eb,eo,ka,kc⟩ rfl;refine Aa 11 [100,0,0,0] (aI oM<|y2<|λb4=>y<|y<|λ_=>mG (XX:=λ_ _=>False) C C (eC bE C C) (λw f D=>(ih w f D.vl ob mb oa2 oc2 U D.res D.mz t2 ka kc (by have:=T1.size_cons t2 r;omega) (by have:=T1.size_cons t2 r;omega) (T1.bnd_cons.1 Q).1 D.f0).retP) (λ_=>Ek.stab) (λ_=>trivial) (λ_ _ _ _ _ h=>h.elim) ?_);rintro⟨oa3,oc3⟩ -;exact Aa 7 [] (aI ⟨oM,oM⟩<|λ_=>DW ((i+1,r,BZ t2.one U,oa3,oc3)) (show r.len<(t2.cons r).len by rw[T1.len_cons];omega) ⟨show i+1+r.len=t.kids.len by omega,show BZ t.kids l=BZ r (BZ t2.one U) by rw[hk,Zz],(T1.bnd_cons.1 Q).2,show r.size+(BZ t2.one U).length≤1000000 by have L:=T1.size_cons t2 r;have F:=JN t2.one U;have O:t2.one.size=t2.kids.size+0+1:=T1.size_cons t2 .nil;omega,show r.size≤t.kids.size by have:=T1.size_cons t2 r;omega⟩ lE (λw f D=>⟨_,D.less (.cons _ sR) sR nE (mR [1])⟩));refine Aa 3 [] (λ_=>GP<|Aa 1 [] (λ_=>?_));obtain rfl:r=.nil:=Ty.len0 (by have:=dF O;omega);obtain⟨tx,kk,rfl⟩:=FY L;have G:BZ (T1.con tx kk).one l=U:=by rw[iM];exact hk
 exact kQ (λw f D=>DZ C) (λw f D=>⟨(oa2,oc2),f,C,tQ,D.exm,(λb J=>let ⟨L,F,O⟩:=D.mi b J;O.elim (λh=>.inr ⟨h,L,F⟩) .inl),(by rw[G];exact D.res),tQ⟩)
theorem Yz(w:wO)(f:Fq)(G:Vl w f)(ob mb:Nat)(a:oA)(c:Nat)(l:List Int)(K:RM 97 ob mb a c l w f)(L:∀b,N6 ob mb a b→f b=0)(t:T1)(D:oA)(F:Nat)(J:t.kids.size+1+l.length≤1000000)(O:t.bnd)(Q:Ai w f t.kids D F) :
  BF prog 89 #[tV t D F,.map (some mb),pB ob] w (P4 (α:=oA×Nat) (λ_=>.tuple #[]) (λ_=>True) (N6 ob mb a) (λx=>N6 ob mb x.1) (λx=>RM 97 ob mb x.1 x.2 (BZ t.one l)) (λ_=>[]) w f) :=
 Ns (p:=oY prog 89 97) (λw f G ob mb a c l _ _ t D F h=>by omega) (λm U w f G ob mb a c l W Y t D F Z h4 h5 h6=>Y2 m U w f G ob mb a c l W Y t D F Z h4 h5 h6) (t.kids.size+1) w f G ob mb a c l K L t D F (Nat.lt_succ_self _) J O Q
theorem GX(w:wO)(f:Fq)(Z:Vl w f)(t:T1)(a:oA)(c:Nat)(G:t.kids.size+1≤1000000)(F:t.bnd)(hT:Ai w f t.kids a c) :
  BF prog 59 #[tV t a c] w (Ce (α:=oA×Nat) (λx=>.slice x.1 (Ak t).length x.2) (λ_=>True) (λx=>[λw f=>Ci w f (Ak t) x.1 x.2]) w f):=by
 refine Df (X:=X0 w f) (H:=[]) (R:=[]) (B:=[]) (Fs:=[λw f=>Ai w f t.kids a c]) (f:=f) func59 C C C (CC Z ⟨hT,tQ⟩ ⟨Ai.mono,tQ⟩)<|Aa 14 [1] (λb1=>λb2=>y<|λ_=>mmp (K:=Fu) C C λm1=>mgv 0 C C<|KH (λw f D=>(λe=>(by have Y:=D.res.1.2.lt;have J:=D.res.2;subst e;obtain⟨es,c,L,_⟩:=D.res.1.2;have O:=J.symm.trans L;cases O):b2≠m1)) λQ=>mG (α:=oA×Nat) (val:=λ_=>.tuple #[]) (q:=λ_=>True) (MI':=λx=>N6 b2 m1 x.1) (I':=λx=>RM 97 b2 m1 x.1 x.2 (Ak t)) (F':=λ_=>[]) (XX:=λ_ _=>False) C C (eC bE C C) (λw f D=>((Yz w f D.vl b2 m1 none 0 [] ⟨D.res.2,D.res.1.2,GC _ _ _,⟨Q,by simp[rb],by simp[rb]⟩,List.nodup_nil⟩ (λb F=>(D.mi b (F.elim .inr (λh=>h.elim (λh=>.inl (.inr h)) (λh=>by cases h)))).2.1) t a c G F D.f0).mono λv w2 ⟨x,f2,Y,J,L,O,h5,h6⟩=>⟨x,f2,Y,J,L.mono (λb F=>F.elim .inr (λh=>h.elim (λh=>.inl (.inr h)) (λh=>by cases h))),(λb F=>(O b F).imp (λF=>F.elim .inr (λh=>h.elim (λh=>.inl (.inr h)) (λh=>by cases h))) id),h5,h6⟩).retP) (λ_=>Ek.stab) (λ_=>trivial) (λ_ _ _ _ _ h=>h.elim) ?_);rintro⟨U,W⟩ -;exact Aa 4 [] (λ_=>FJ C C (λw f D=>Am C QB D.res.blk C)<|Aa 4 [] (λ_=>Bc (DE C C) (λw f D=>let ⟨f2,hE,hF⟩:=Ek.int D.res D.exm (λb F=>(D.mi b (.inr (.inr F))).2.2.elim id (λh=>h.elim));⟨(U,W),f2,C,tQ,hE,⟨hF,tQ⟩⟩)))
end Go.Proofs.YtgdndhedjlmagaaGreatDoor
namespace Go.Proofs
open Go.Shelf
def Tryz.lays156_ren:Go.Shelf.Ren:=⟨λ|156=>92|165=>114|166=>115|169=>116|240=>140|241=>141|276=>159|277=>160|n=>n,λ|31=>32|9=>9|3=>3|4=>4|0=>0|20=>20|72=>180|76=>182|70=>178|37=>127|75=>158|127=>205|164=>236|5=>5|80=>184|n=>n,λ|n=>n⟩
theorem Tryz.lays156:Go.Proofs.Lays.n156 prog Tryz.lays156_ren:={
 mixed:=kR
 f156:=func92.trans (congrArg some kR)
 f165:=func114.trans (congrArg some kR)
 f166:=func115.trans (congrArg some kR)
 f169:=func116.trans (congrArg some kR)
 f240:=func140.trans (congrArg some kR)
 f241:=func141.trans (congrArg some kR)
 f276:=func159.trans (congrArg some kR)
 f277:=func160.trans (congrArg some kR)
 t0:=underlying0
 a0:=isAgg0
 z0:=sizeOf0
 v0:=zeroValue0
 t3:=underlying3
 a3:=isAgg3
 z3:=sizeOf3
 v3:=zeroValue3
 t4:=underlying4
 a4:=isAgg4
 z4:=sizeOf4
 v4:=zeroValue4
 t9:=underlying9
 a9:=isAgg9
 z9:=sizeOf9
 v9:=zeroValue9
 t20:=underlying20
 a20:=isAgg20
 z20:=sizeOf20
 v20:=zeroValue20
 t31:=underlying32
 a31:=isAgg32
 z31:=sizeOf32
 v31:=zeroValue32
 t37:=underlying127
 a37:=isAgg127
 z37:=sizeOf127
 v37:=zeroValue127
 t70:=underlying178
 a70:=isAgg178
 z70:=sizeOf178
 v70:=zeroValue178
 t72:=underlying180
 a72:=isAgg180
 z72:=sizeOf180
 v72:=zeroValue180
 t75:=underlying158
 a75:=isAgg158
 z75:=sizeOf158
 v75:=zeroValue158
 t76:=underlying182
 a76:=isAgg182
 z76:=sizeOf182
 v76:=zeroValue182
 t127:=underlying205
 a127:=isAgg205
 z127:=sizeOf205
 v127:=zeroValue205
 t164:=underlying236
 a164:=isAgg236
 z164:=sizeOf236
 v164:=zeroValue236}
def Tryz.lays171_ren:Go.Shelf.Ren:=⟨λ|171=>91|243=>113|246=>139|283=>155|284=>156|285=>157|286=>158|129=>171|317=>170|318=>172|319=>173|320=>174|337=>189|338=>190|n=>n,λ|3=>3|9=>9|2=>2|4=>4|171=>231|0=>0|53=>130|37=>127|5=>5|173=>234|212=>252|51=>200|20=>20|213=>253|46=>156|232=>302|233=>303|n=>n,λ|17=>6|18=>15|19=>16|n=>n⟩
theorem Tryz.lays171:Go.Proofs.Lays.n171 prog Tryz.lays171_ren:={
 mixed:=kR
 f129:=func171.trans (congrArg some kR)
 f171:=func91.trans (congrArg some kR)
 f243:=func113.trans (congrArg some kR)
 f246:=func139.trans (congrArg some kR)
 f283:=func155.trans (congrArg some kR)
 f284:=func156.trans (congrArg some kR)
 f285:=func157.trans (congrArg some kR)
 f286:=func158.trans (congrArg some kR)
 f317:=func170.trans (congrArg some kR)
 f318:=func172.trans (congrArg some kR)
 f319:=func173.trans (congrArg some kR)
 f320:=func174.trans (congrArg some kR)
 f337:=func189.trans (congrArg some kR)
 f338:=func190.trans (congrArg some kR)
 t0:=underlying0
 a0:=isAgg0
 z0:=sizeOf0
 v0:=zeroValue0
 t2:=underlying2
 a2:=isAgg2
 z2:=sizeOf2
 v2:=zeroValue2
 t3:=underlying3
 a3:=isAgg3
 z3:=sizeOf3
 v3:=zeroValue3
 t4:=underlying4
 a4:=isAgg4
 z4:=sizeOf4
 v4:=zeroValue4
 t5:=underlying5
 a5:=isAgg5
 z5:=sizeOf5
 v5:=zeroValue5
 t9:=underlying9
 a9:=isAgg9
 z9:=sizeOf9
 v9:=zeroValue9
 t20:=underlying20
 a20:=isAgg20
 z20:=sizeOf20
 v20:=zeroValue20
 t37:=underlying127
 a37:=isAgg127
 z37:=sizeOf127
 v37:=zeroValue127
 t46:=underlying156
 a46:=isAgg156
 z46:=sizeOf156
 v46:=zeroValue156
 t51:=underlying200
 a51:=isAgg200
 z51:=sizeOf200
 v51:=zeroValue200
 t53:=underlying130
 a53:=isAgg130
 z53:=sizeOf130
 v53:=zeroValue130
 t171:=underlying231
 a171:=isAgg231
 z171:=sizeOf231
 v171:=zeroValue231
 t173:=underlying234
 a173:=isAgg234
 z173:=sizeOf234
 v173:=zeroValue234
 t212:=underlying252
 a212:=isAgg252
 z212:=sizeOf252
 v212:=zeroValue252
 t213:=underlying253
 a213:=isAgg253
 z213:=sizeOf253
 t232:=underlying302
 a232:=isAgg302
 z232:=sizeOf302
 v232:=zeroValue302
 t233:=underlying303
 a233:=isAgg303
 z233:=sizeOf303
 v233:=zeroValue303
 g17:=kR
 g18:=kR
 g19:=by kernel_rfl}
def Tryz.lays157_ren:Go.Shelf.Ren:=⟨λ|157=>79|229=>106|199=>107|261=>136|311=>153|312=>154|n=>n,λ|9=>9|31=>32|3=>3|5=>5|4=>4|119=>168|0=>0|40=>170|152=>197|21=>21|154=>199|51=>200|141=>202|196=>223|193=>220|198=>226|49=>224|194=>221|201=>229|226=>249|46=>156|227=>250|n=>n,λ|0=>0|6=>2|n=>n⟩
theorem Tryz.lays157:Go.Proofs.Lays.n157 prog Tryz.lays157_ren:={
 mixed:=kR
 f157:=func79.trans (congrArg some kR)
 f199:=func107.trans (congrArg some kR)
 f229:=func106.trans (congrArg some kR)
 f261:=func136.trans (congrArg some kR)
 f311:=func153.trans (congrArg some kR)
 f312:=func154.trans (congrArg some kR)
 t0:=underlying0
 a0:=isAgg0
 z0:=sizeOf0
 v0:=zeroValue0
 t3:=underlying3
 a3:=isAgg3
 z3:=sizeOf3
 v3:=zeroValue3
 t4:=underlying4
 a4:=isAgg4
 z4:=sizeOf4
 v4:=zeroValue4
 t5:=underlying5
 a5:=isAgg5
 z5:=sizeOf5
 v5:=zeroValue5
 t9:=underlying9
 a9:=isAgg9
 z9:=sizeOf9
 v9:=zeroValue9
 t21:=underlying21
 a21:=isAgg21
 z21:=sizeOf21
 v21:=zeroValue21
 t31:=underlying32
 a31:=isAgg32
 z31:=sizeOf32
 v31:=zeroValue32
 t40:=underlying170
 a40:=isAgg170
 z40:=sizeOf170
 v40:=zeroValue170
 t46:=underlying156
 a46:=isAgg156
 z46:=sizeOf156
 v46:=zeroValue156
 t49:=underlying224
 a49:=isAgg224
 z49:=sizeOf224
 v49:=zeroValue224
 t51:=underlying200
 a51:=isAgg200
 z51:=sizeOf200
 v51:=zeroValue200
 t119:=underlying168
 a119:=isAgg168
 z119:=sizeOf168
 t141:=underlying202
 a141:=isAgg202
 z141:=sizeOf202
 v141:=zeroValue202
 t152:=underlying197
 a152:=isAgg197
 z152:=sizeOf197
 v152:=zeroValue197
 t154:=underlying199
 a154:=isAgg199
 z154:=sizeOf199
 v154:=zeroValue199
 t193:=underlying220
 a193:=isAgg220
 z193:=sizeOf220
 v193:=zeroValue220
 t194:=underlying221
 a194:=isAgg221
 z194:=sizeOf221
 v194:=zeroValue221
 t196:=underlying223
 a196:=isAgg223
 z196:=sizeOf223
 v196:=zeroValue223
 t198:=underlying226
 a198:=isAgg226
 z198:=sizeOf226
 v198:=zeroValue226
 t201:=underlying229
 a201:=isAgg229
 z201:=sizeOf229
 v201:=zeroValue229
 t226:=underlying249
 a226:=isAgg249
 z226:=sizeOf249
 v226:=zeroValue249
 t227:=underlying250
 a227:=isAgg250
 z227:=sizeOf250
 v227:=zeroValue250
 g0:=kR
 g6:=by kernel_rfl}
end Go.Proofs
namespace Go.Proofs.YtgdndhedjlmagaaGreatDoor
open Go.SW Go.SP Go.RowKit Go.Shelf Go.Proofs.Tryz
theorem Zj(w:wO)(f:Fq)(h:Vl w f)(i:Nat)(D:i<100):BF prog 91 #[.int .i64 (i:Int)] w (Ce (α:=Unit) (λ_=>S (Lib.decDigits i)) (λ_=>True) (λ_=>[]) w f) :=
 Calls.mono (Any.strconv_Itoa_small Tryz.lays171 i D w) λ_ _ ⟨he,hw⟩=>⟨_,he,(),f,C,tQ,(by subst hw;exact CQ.refl _ h),tQ⟩
theorem bxE:Builder.Extra prog Tryz.lays156_ren where
 sizeBuilder:=kR
 liesBuilder:=kR
 t5:=underlying5
 a5:=isAgg5
 z5:=sizeOf5
 v5:=zeroValue5
 infoByte:=kR
 cellsByte:=kR
 sizeByte:=kR
 neB5:=dC
theorem Yy(w:wO)(f:Fq)(O:Vl w f)(bk o c:Nat)(l:List lU)(s:lU)(K:Cs w f bk o (l.map S))(Q:0<l.length)(U:l.length≤1000000)(D:l.length≤c)(hlen:(Lib.join l s).length≤140737488355328) :
   BF prog 92 #[.slice (some ⟨bk,o,none⟩) l.length c,S s] w (Ce (α:=Unit) (λ_=>S (Lib.join l s)) (λ_=>True) (λ_=>[]) w f):=by
 have L:(l.map λx=>(⟨x.toArray⟩:ByteArray)).map (·.data.toList)=l:=by rw[List.map_map];exact List.map_id' l
 have J:bk<w.heap.size:=by
   obtain⟨x,F⟩:∃x,l[0]?=some x:=⟨_,List.getElem?_eq_getElem Q⟩;exact IJ (K 0 (S x) (by rw[List.getElem?_map,F];rfl)).2
 have h:=Any.strings_Join Tryz.lays156 bxE bk o c (l.map λx=>⟨x.toArray⟩) ⟨s.toArray⟩ w (λj x G=>by
   rw[List.getElem?_map] at G
   cases F:l[j]? with
   |none=>rw[F] at G;cases G
   |some y=>rw[F] at G;cases G;exact (K j (S y) (by rw[List.getElem?_map,F];rfl)).2) J (by rw[List.length_map];omega) (by rw[List.length_map];exact D) (by rw[L];exact hlen)
 rw[L,List.length_map] at h;exact Calls.mono h λ_ _ ⟨he,hw⟩=>⟨_,he,(),f,C,tQ,Go.SW.Below.exm hw O _,tQ⟩
end Go.Proofs.YtgdndhedjlmagaaGreatDoor
namespace Go.Proofs.YtgdndhedjlmagaaGreatDoor
open Go.SW Go.SP Go.RowKit Go.Proofs.Tryz
theorem Ur(w:wO)(f:Fq)(G:Vl w f)(n:Nat)(K:n<2000) :
  BF prog 63 #[iV (n:Int)] w (Ce (α:=Unit) (λ_=>S (DM n)) (λ_=>True) (λ_=>[]) w f):=by
 have J:(Lib.decDigits (n / 26)).length≤20:=by rw[← Sm 19 (n / 26) (by omega)];exact NK 20 _
 refine Df (X:=X0 w f) (H:=[]) (R:=[]) (B:=[]) (Fs:=[]) (f:=f) func63 C C C (CC G tQ tQ)<|Aa 8 [] (λ_=>FJ C C (λw f h=>jJ ((n % 26:Nat):Int) C C dC (by rw[Int.tmod_eq_emod_of_nonneg (by omega)];omega))<|Aa 1 [] (aI ⟨oM,oM⟩<|λ_=>FJ C C (λw f h=>DL (m:=97+((n % 26:Nat):Int)) C jP (by unfold IntKind.wrap;simp[IntKind.bits,IntKind.signed];omega))<|FJ C C (λw f h=>wB C jW (UU n))<|Aa 11 [] (aI (by simp <;> omega)<|λ_=>Bb 11 C C (λF=>?_) (λF=>?_))));refine Aa 4 [] (λ_=>FJ C C (λw f h=>jN ((n / 26:Nat):Int) C C dC (by rw[Int.tdiv_eq_ediv_of_nonneg (by omega),Ks (by omega)];omega))<|BA C C (eC uS C C) (λw f h=>Zj w f h.vl (n / 26) oM) (λx=>trivial) ?_);rintro⟨⟩ -;refine Aa 11 [] (aI (by simp <;> omega)<|λ_=>?_);have D:DM n=[39,UInt8.ofNat (97+n % 26)]++Lib.decDigits (n / 26):=by unfold DM;rw[if_neg (by have:=dT F;omega),Sm 19 (n / 26) (by omega)]
 exact Bc (DE C C) (λw f h=>⟨(),f,(by rw[D];rfl),tQ,h.exm,tQ⟩);refine Aa 10 [] (λ_=>?_);have D:DM n=[39,UInt8.ofNat (97+n % 26)]:=by unfold DM;rw[if_pos (by have:=dF F;omega)];rfl
 exact Bc (DE C C) (λw f h=>⟨(),f,(by rw[D];rfl),tQ,h.exm,tQ⟩)
theorem ZB(m:Nat)(ih:pG prog 64 m)(w:wO)(f:Fq)(hv:Vl w f)(mb:Nat)(vs:List Int)(es:List (Int×Value))(F:Cz Fu w mb es)(hL:MB vs es)(t:T1)(a:oA)(c:Nat)(hm:t.kids.size<m+1)(hsz:t.kids.size≤1000000)(G:t.bnd)(hT:Ai w f t.kids a c) :
  BF prog 64 #[tV t a c,.map (some mb)] w (Ce (α:=Unit) (λ_=>S (PA vs t)) (λ_=>True) (λ_=>[]) w f):=by
 have hbl:=G.1;have O:=F.lt;refine Df (X:=X0 w f) (H:=[]) (R:=[]) (B:=[]) (Fs:=[λw f=>Ai w f t.kids a c]) (f:=f) func64 C C C (CC hv ⟨hT,tQ⟩ ⟨Ai.mono,tQ⟩)<|Aa 16 [0] (λb1=>y<|λ_=>Bb 8 C C (λJ=>?_) (λJ=>?_));refine Aa 6 [0] (y<|λ_=>FJ C C (λw f D=>Ow (K:=Fu) (a:=t.num) C C iD P8 qzo9 (F.heap (D.exm.stp.block mb O (λh=>h))) hL.1 (hL.get t.num))<|Aa 6 [] (λ_=>?_));obtain⟨n,rfl⟩:=EJ J;exact Bc (DE C C) (λw f D=>⟨(),f,C,tQ,D.exm,tQ⟩);refine Aa 10 [0] (y<|λ_=>Bb 16 C C (λQ=>?_) (λQ=>?_));refine Aa 11 [0] (y<|λ_=>?_);obtain⟨tx,kk,rfl⟩:=FY J;obtain rfl:kk=.nil:=Ty.len0 (by have U:=beq_iff_eq.1 Q;simp only[T1.kids] at U;omega);exact Bc (DE C C) (λw f D=>⟨(),f,(by rw[Xu];rfl),tQ,D.exm,tQ⟩);refine Aa 22 [0,1] (y<|λb2=>y<|λ_=>mhr 0 1 1 C C C dC ?_);refine HE (α:=Nat×Ty×List lU×oA×Nat) (λx=>x.2.1.len) (λx=>x.1+x.2.1.len=t.kids.len∧x.2.2.1.length=x.1∧C4 vs t.kids=Lib.joinTail [32] x.2.2.1++C4 vs x.2.1∧x.2.1.bnd∧x.2.1.size≤t.kids.size) (λx=>(E6 1 (.map (some mb)) 2 (pB b1) 5 (.slice x.2.2.2.1 (x.1+1) x.2.2.2.2) 27 (.slice a t.kids.len c) 28 (iV (t.kids.len:Int)) 29 (iV (x.1:Int)))) (λx=>X0 w f) (λx=>[⟨b1,tC t a c,68,true⟩]) (λx=>[⟨9,1,x.2.2.2.1,x.2.2.2.2,x.1+1,(t.tx::x.2.2.1).map S⟩]) (λx=>[]) (λx=>[λw f=>Cc w f a x.1 x.2.1]) (0,t.kids,[],some ⟨b2,0,none⟩,1) ⟨by simp,C,C,G.2,Nat.le_refl _⟩ lE (λw f D=>D.more (B':=[]) (F':=[λw f=>Cc w f a 0 t.kids]) nE (AM.mem ⟨Ai.at D.f0,tQ⟩) (A2.mem ⟨Cc.mono,tQ⟩) |>.less sR sR nE (mR [0])) ?_;rintro⟨i,r,l,ra,rc⟩ ⟨hi,hl,hk,L,hs⟩;dsimp only at hi hl hk L hs ⊢;refine Aa 6 [] (λ_=>Bb 30 C C (λW=>?_) (λW=>?_));refine Aa 6 [] (λ_=>?_);have hil:i<t.kids.len:=by have:=dT W;omega
 obtain⟨t2,r,rfl⟩:=Ty.cases1 r oM;rw[T1.len_cons] at hi;refine ZJ 0 C ?_;rintro⟨eb,eo,ka,kc⟩ rfl;refine Aa 11 [100,0,0,0] (aI oM<|y2<|λb3=>y<|y<|λ_=>BA C C (eC aR C C) (λw f D=>ih w f D.vl mb vs es (F.heap (D.exm.stp.block mb O (λh=>h))) hL t2 ka kc (by have:=T1.size_cons t2 r;omega) (by have:=T1.size_cons t2 r;omega) (T1.bnd_cons.1 L).1 D.f0) (λx=>trivial) ?_);rintro⟨⟩ -;exact Aa 1 [] (λb4=>λ_=>DI 0 0 C C xN C C C C C C C C (λ_ _=>C) oM oM λY Z=>Aa 8 [] (aI ⟨oM,oM⟩<|λ_=>DW ((i+1,r,l++[PA vs t2],Y,Z)) (show r.len<(t2.cons r).len by rw[T1.len_cons];omega) ⟨show i+1+r.len=t.kids.len by omega,show (l++[PA vs t2]).length=i+1 by simp[hl],show C4 vs t.kids=Lib.joinTail [32] (l++[PA vs t2])++C4 vs r by rw[hk,M4,Wx];simp,(T1.bnd_cons.1 L).2,show r.size≤t.kids.size by have:=T1.size_cons t2 r;omega⟩ lE (λw f D=>⟨_,by have hM2:=D.less (H':=[⟨b1,tC t (some ⟨eb,eo,none⟩) c,68,true⟩]) (R':=[⟨9,1,Y,Z,i+1+1,(t.tx::l).map S++[S (PA vs t2)]⟩]) (B':=[]) (F':=[λw f=>Cc w f (some ⟨eb,eo,none⟩) (i+1) r]) (.cons _ (.cons _ sR)) sR nE (mR [1]);rw[show (t.tx::l).map S++[S (PA vs t2)]=(t.tx::(l++[PA vs t2])).map S by simp] at hM2;exact hM2⟩)));refine Aa 3 [] (λ_=>GP<|Aa 3 [] (λ_=>?_));obtain rfl:r=.nil:=Ty.len0 (by have:=dF W;omega);rw[show C4 vs .nil=[] from C,List.append_nil] at hk;refine KH (λw f D=>(let ⟨_,h⟩:=D.row _ (.head _);h.elim (λh=>by simp at h) (λ⟨b,q,J,Q,W,_⟩=>⟨b,J,W⟩):∃b,ra=some ⟨b,0,none⟩∧i+1≤rc)) λhra=>?_;obtain⟨rb1,rfl,hrc⟩:=hra;refine pW 0 C C ?_;have hjn:Lib.join (t.tx::l) [32]=t.tx++C4 vs t.kids:=by rw[Lib.join_cons,hk]
 have hjl:(t.tx++C4 vs t.kids).length≤1100000000000:=by have J:=L4 vs t.kids G.2;have Q:=hbl.2;rw[List.length_append];omega
 refine Aa 2 [] (λ_=>BA (α:=Unit) (val:=λ_=>S (t.tx++C4 vs t.kids)) (q:=λ_=>True) (F':=λ_=>[]) C C (eC rN C C) (λw f D=>(by have U:=Yy w f D.vl rb1 0 rc (t.tx::l) [32] D.b0 (by simp) (by simp;omega) (by simp;omega) (by rw[hjn];omega);rw[hjn,show (t.tx::l).length=i+1 by simp[hl]] at U;exact U)) (λx=>trivial) ?_);rintro⟨⟩ -;refine Aa 6 [] (aI (by simp at hjl ⊢;omega)<|aI (by simp at hjl ⊢;omega)<|λ_=>?_);obtain⟨tx,kk,rfl⟩:=FY J;have hsc:=ZR vs tx kk (by have U:¬(kk.len:Int)=0:=(by simpa[T1.kids] using Q);omega);exact Bc (DE C C) (λw f D=>⟨(),f,(by rw[hsc];rfl),tQ,D.exm,tQ⟩)
theorem Y4(w:wO)(f:Fq)(D:Vl w f)(mb:Nat)(vs:List Int)(es:List (Int×Value))(F:Cz Fu w mb es)(J:MB vs es)(t:T1)(a:oA)(c:Nat)(G:t.kids.size≤1000000)(K:t.bnd)(L:Ai w f t.kids a c) :
  BF prog 64 #[tV t a c,.map (some mb)] w (Ce (α:=Unit) (λ_=>S (PA vs t)) (λ_=>True) (λ_=>[]) w f) :=
 Ns (p:=pG prog 64) (λw f D mb vs es _ _ t a c h=>by omega) (λm O w f D mb vs es Q U t a c W Y Z h6=>ZB m O w f D mb vs es Q U t a c W Y Z h6) (t.kids.size+1) w f D mb vs es F J t a c (Nat.lt_succ_self _) G K L
theorem F2(w:wO)(f:Fq)(F:Vl w f)(l:List Int)(a:oA)(c:Nat)(n:Int)(G:l.length≤1000000)(J:Ci w f l a c) :
  BF prog 88 #[.slice a l.length c,iV n] w (Ce (α:=Unit) (λ_=>.bool (l.contains n)) (λ_=>True) (λ_=>[]) w f):=by
 refine Df (X:=X0 w f) (H:=[]) (R:=[]) (B:=[]) (Fs:=[λw f=>Ci w f l a c]) (f:=f) func88 C C C (CC F ⟨J,tQ⟩ ⟨Ci.mono,tQ⟩)<|Aa 9 [] (λ_=>BA C C (eC dE C C) (λw f h=>MY w f h.vl l a c n G h.f0) (λx=>trivial) ?_);rintro⟨⟩ -;exact Aa 5 [] (λ_=>Bc (DE C C) (λw f h=>⟨(),f,(by congr 1;cases D:C1 l n with|none=>rw[ZH,D,MR D];rfl|some i=>rw[ZH,D,(Il D).1];simp),tQ,h.exm,tQ⟩))
theorem ZY(w:wO)(f:Fq)(F:Vl w f) :
  BF prog 49 #[] w (P4 (α:=Nat×Nat) (λx=>pB x.1) (λx=>x.1≠x.2) (λ_=>False) (λx=>Nn x.1 x.2) (λx=>BP 140 x.1 x.2 [] 0 0) (λ_=>[]) w f):=by
 exact Df (X:=X0 w f) (H:=[]) (R:=[]) (B:=[]) (Fs:=[]) (f:=f) func49 C C C (CC F tQ tQ)<|Aa 7 [] (λ_=>mmp (K:=Fu) C C λm1=>Aa 6 [] (λb1=>λ_=>mgv 0 C C<|Bc (DE C C) (λw f D=>⟨(b1,m1),f,C,uW D.res.2 D.res.1.2,D.exm,(λb G=>let ⟨J,L,O⟩:=D.mi b (G.elim .inr (λh=>.inl (.inr h)));O.elim (λh=>.inr ⟨h,J,L⟩) .inl),BP.new D.res.2 D.res.1.2,tQ⟩)))
theorem YS(w:wO)(f:Fq)(Y:Vl w f)(t:T1)(a:oA)(c:Nat)(Z:t.kids.size+1≤1000)(L:t.bnd)(hT:Ai w f t.kids a c) :
  BF prog 39 #[tV t a c] w (Ce (α:=Unit) (λ_=>S (De t)) (λ_=>True) (λ_=>[]) w f):=by
 have hvl:=GR t;have O:(Ak t).Nodup:=I9 _ _ List.nodup_nil;refine Df (X:=X0 w f) (H:=[]) (R:=[]) (B:=[]) (Fs:=[λw f=>Ai w f t.kids a c]) (f:=f) func39 C C C (CC Y ⟨hT,tQ⟩ ⟨Ai.mono,tQ⟩)<|Aa 8 [] (λb1=>λ_=>mmp (K:=Fu) C C λm1=>Aa 7 [0] (y<|λ_=>BA C C (eC MM C C) (λw f D=>GX w f D.vl t a c oM L D.f0) (λx=>⟨Ci.mono,tQ⟩) ?_));rintro⟨va,vc⟩ -;refine Aa 5 [] (λ_=>?_);refine HE (α:=Nat×List (Int×Value)) (λx=>(Ak t).length-x.1) (λx=>x.1≤(Ak t).length∧MB ((Ak t).take x.1) x.2) (λx=>(E5 1 (pB b1) 3 (.map (some m1)) 8 (.slice va (Ak t).length vc) 9 (iV ((Ak t).length:Int)) 10 (iV (x.1:Int)))) (λx=>⟨λ_=>False,λb=>False∨b=m1,λw f=>True∧Cz Fu w m1 x.2,w,f⟩) (λx=>[⟨b1,tC t a c,68,true⟩]) (λx=>[]) (λx=>[]) (λx=>[λw f=>Ci w f (Ak t) va vc,λw f=>Ai w f t.kids a c]) (0,[]) ⟨Nat.zero_le _,MB.nil⟩ lE (λw f D=>D) ?_;rintro⟨i,es⟩ ⟨hi,F⟩;dsimp only at hi F ⊢;refine Aa 6 [] (λ_=>Bb 11 C C (λQ=>?_) (λQ=>?_));refine Aa 6 [] (λ_=>?_);have G:i<(Ak t).length:=by have:=dT Q;omega
 obtain⟨v0,U⟩:∃v,(Ak t)[i]?=some v:=⟨_,List.getElem?_eq_getElem G⟩;have J:=F.snoc (WK O U);refine sB 0 C U ?_;rintro⟨b,off⟩ rfl;refine Aa 12 [100,0] (aI oM<|y2<|λ_=>BA C C (eC rW C C) (λw f D=>Ur w f D.vl i oM) (λx=>trivial) ?_);rintro⟨⟩ -;exact iT (K:=Fu) (a:=v0) (l:=es) (I':=λw f=>True∧Cz Fu w m1 ((v0,S (DM i))::es)) C C C C iD P8 (.inr C) F.1 J.1 (λw f h=>h.2) (λw f w2 h D hC hm=>⟨tQ,hm⟩) (λ_ _ _ _ h _ L=>⟨tQ,h.2.heap (L _ (.inr C))⟩)<|Aa 7 [] (aI ⟨oM,oM⟩<|λ_=>DW ((i+1,(v0,S (DM i))::es)) (show (Ak t).length-(i+1)<(Ak t).length-i by omega) ⟨by show i+1≤_;omega,by show MB ((Ak t).take (i+1)) _;rw[D6 U];have W:=J.2;rw[List.length_take,Nat.min_eq_left (Nat.le_of_lt G)] at W;exact W⟩ lE (λw f D=>⟨_,D.less sR sR nE (λ_ h=>h)⟩));refine Aa 3 [] (λ_=>GP<|Aa 3 [] (λ_=>?_));rw[List.take_of_length_le (by have:=dF Q;omega)] at F;refine Aa 3 [0] (y<|λ_=>BA C C (eC aR C C) (λw f D=>Y4 w f D.vl m1 (Ak t) es D.res.2 F t a c oM L D.f1) (λx=>trivial) ?_);rintro⟨⟩ -;exact Aa 4 [] (λ_=>Bc (DE C C) (λw f D=>⟨(),f,C,tQ,D.exm,tQ⟩))
end Go.Proofs.YtgdndhedjlmagaaGreatDoor
