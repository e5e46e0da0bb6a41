/- What it rests on, part 4. -/
import Derived.Test.YtplnpgpagkpnmaaGreatDoorGb3
import Derived.Shelf.Strings.OnBuilder
import Derived.Shelf.Strconv.Itoa3
import Derived.Shelf.Strings.Fields
set_option linter.unusedVariables false
set_option linter.unusedSimpArgs false
namespace Go.SP
open Go.SW Go.RowKit
theorem Hx{α:Type}(p:α→Bool):∀(l:List α),l.dropWhile p=[]↔∀x∈l,p x=true
 | []=>by simp
 |a::l=>by
   have d:=Hx p l
   cases h:p a <;> simp[List.dropWhile,h,d]
theorem J6{α:Type}(p:α→Bool):∀(l:List α)(a:α)(r:List α),l.dropWhile p=a::r→p a=false
 | [],_,_,h=>by simp at h
 |b::l,a,r,h=>by
   cases d:p b with
   |true=>rw[List.dropWhile_cons_of_pos d] at h;exact J6 p l a r h
   |false=>rw[List.dropWhile_cons_of_neg (by simp[d])] at h;cases h;exact d
theorem fT(s l:lU):Ht s l=s.all (l.contains ·):=by
 have key:Lib.trimS s l=[]↔∀x∈s,l.contains x=true:=by
   unfold Lib.trimS Lib.trimLeftS Lib.trimRightS;rw[Hx];constructor
   · intro h
     cases hd:s.reverse.dropWhile (l.contains ·) with
     |nil=>intro x D;exact (Hx _ _).1 hd x (by simpa using D)
     |cons a r =>
       have G:=J6 _ _ _ _ hd;have d:=h a (by rw[hd];simp);rw[G] at d;cases d
   · intro h x D
     exact h x (by have:=(List.dropWhile_suffix (l.contains ·) (l:=s.reverse)).subset (by simpa using D);simpa using this)
 unfold Ht
 cases h:s.all (l.contains ·) with
 |true=>rw[key.2 (by simpa using h)];rfl
 |false =>
   have:¬Lib.trimS s l=[]:=λe=>by
     have:=key.1 e;have d:s.all (l.contains ·)=true:=by simpa using this
     rw[h] at d;cases d
   simp[this]
theorem ZG{c:UInt8}(h:FO.contains c=true):48≤c.toNat∧c.toNat≤57:=by
 simp only[FO,List.contains_cons,List.contains_nil,Bool.or_false,Bool.or_eq_true,beq_iff_eq] at h;rcases h with rfl|rfl|rfl|rfl|rfl|rfl|rfl|rfl|rfl|rfl <;> decide
theorem Gs{s:lU}(h:Ek s=true):(s==[])=false∧∀c∈s,48≤c.toNat∧c.toNat≤57:=by
 unfold Ek at h;rw[fT,Bool.and_eq_true] at h;exact⟨by simpa using h.1,λc d=>ZG (List.all_eq_true.1 h.2 c d)⟩
theorem Ik(r:lU):Ba (45::r)=r:=by
 simp[Ba,Lib.trimPrefix,Lib.hasPrefix,List.isPrefixOf]
theorem Ii{s:lU}(h:Pl s=false):Ba s=s:=by
 unfold Ba Lib.trimPrefix
 cases s with
 |nil=>simp
 |cons c r =>
   have:c≠45:=by simpa[Pl] using h
   simp[Lib.hasPrefix,List.isPrefixOf,this.symm]
theorem PL{r:lU}(h:Ek r=true):HK (45::r)=if CH 0 r<4611686018427387905 then some (-(CH 0 r:Int)) else none:=by
 unfold HK;rw[Ik,h];simp[Pl,Nat.lt_succ_iff]
theorem Qk{s:lU}(d:Pl s=false)(h:Ek s=true):HK s=if CH 0 s<4611686018427387904 then some (CH 0 s:Int) else none:=by
 unfold HK;rw[Ii d,h,d];simp
theorem KI(s:lU):Pl s=false∨∃r,s=45::r:=by
 cases s with
 |nil=>exact .inl C
 |cons c r =>
   by_cases h:c=45
   · exact .inr ⟨r,by rw[h]⟩
   · left;simp[Pl,h]
theorem Fk(s:lU):(Ba s).length≤s.length:=by
 rcases KI s with h|⟨r,rfl⟩
 · rw[Ii h];exact Nat.le_refl _
 · rw[Ik];simp
end Go.SP
namespace Go.SP
theorem Sv(s t:lU):(Lib.cut s t).1.length≤s.length:=by
 unfold Lib.cut
 split
 · simp only[List.length_take];exact Nat.min_le_right _ _
 · exact Nat.le_refl _
theorem S5(s t:lU):(Lib.cut s t).2.1.length≤s.length:=by
 unfold Lib.cut
 split
 · simp
 · simp
end Go.SP
namespace Go.SP
def wsel(s:lU)(a b c d e f g:Bool):Option (Int×Int×lU):=if a||(b&&c) then none else if d&&e then some (6,0,s) else if f&&g then some (5,0,s) else none
theorem C1{s:lU}(d:HK s=none)(h:Il s=none):Jq s=wsel s (decide ((40:Int)<s.length)) (!(Ba s==[])) (Ht (Ba s) FO) (Ht (s.take 1) ET) (Ht s (ET++Eb++FO)) (Ht (s.take 1) (Eb++Ga)) (Ht s (ET++Eb++FO++Ga)):=by
 rw[Jq,d];simp only[h];rfl
end Go.SP
namespace Go.SP
variable {j:Nat}
theorem PW{p:Ps}{src:lU}(h:¬j<src.length∨∃c,src[j]?=some c∧((c.toNat:Int) != 10)=false):Nz p (src.drop j)=(src.drop j,p):=by
 rcases h with h|⟨c,d,h⟩
 · rw[List.drop_eq_nil_of_le (by omega)];rfl
 · rw[AY d,Nz,if_neg (by rw[h];decide)]
theorem Yw{p:Ps}{src:lU}{c:UInt8}(d:src[j]?=some c)(h:((c.toNat:Int) != 10)=true):Nz p (src.drop j)=Nz (adv c p) (src.drop (j+1)):=by
 rw[AY d,Nz,if_pos h]
theorem OL{p:Ps}{src:lU}(h:¬j<src.length∨∃c,src[j]?=some c∧decide (Lib.indexByte WL c<0)=false):Fa p (src.drop j)=([],src.drop j,p):=by
 rcases h with h|⟨c,d,h⟩
 · rw[List.drop_eq_nil_of_le (by omega)];rfl
 · rw[AY d,Fa,if_neg (by rw[h];decide)]
theorem Vt{p:Ps}{src:lU}{c:UInt8}(d:src[j]?=some c)(h:decide (Lib.indexByte WL c<0)=true) :
   Fa p (src.drop j)=(c::(Fa (adv c p) (src.drop (j+1))).1,(Fa (adv c p) (src.drop (j+1))).2):=by
 rw[AY d,Fa,if_pos h]
def EI(src:lU)(i j:Nat):lU:=(src.take j).drop i
theorem Vs(src:lU)(i:Nat):EI src i i=[]:=by
 unfold EI;rw[List.drop_eq_nil_of_le (by simp;omega)]
theorem V6{src:lU}{i:Nat}{c:UInt8}(d:i≤j)(h:src[j]?=some c):EI src i (j+1)=EI src i j++[c]:=by
 obtain⟨D,he⟩:=List.getElem?_eq_some_iff.1 h;unfold EI;rw[List.take_succ_eq_append_getElem D,List.drop_append_of_le_length (by simp;omega),he]
theorem Bf{src:lU}{i:Nat}{c:UInt8}(d:i<j)(h:src[i]?=some c):EI src i j=c::EI src (i+1) j:=by
 unfold EI;have:(src.take j)[i]?=some c:=by rw[List.getElem?_take,if_pos d,h]
 exact AY this
theorem Fy(src:lU)(i j:Nat):(EI src i j).length≤src.length:=by
 unfold EI;simp only[List.length_drop,List.length_take];omega
section
variable{F i:Nat}{p:Ps}{src:lU}{c:UInt8}
theorem DD(r:lU):DX F p (c::r) =
   (if decide ((0:Int)≤Lib.indexByte Gk c) then .ok ([],r,adv c p)
   else if (c.toNat:Int)==59 then .ok ([],Nz (adv c p) r)
   else if (c.toNat:Int)==40 then .ok ([⟨0,p.1,p.2,0,[]⟩],r,adv c p)
   else if (c.toNat:Int)==41 then .ok ([⟨1,p.1,p.2,0,[]⟩],r,adv c p)
   else if (c.toNat:Int)==34 then (match GS p F (adv c p) [] r with
     |.error e=>.error e
     |.ok (tx,d,h)=>.ok ([⟨4,p.1,p.2,0,tx⟩],d,h))
   else (match Jq (c::(Fa (adv c p) r).1) with
     |none=>.error p
     |some (k,nm,tx)=>.ok ([⟨k,p.1,p.2,nm,tx⟩],(Fa (adv c p) r).2))):=rfl
theorem Tx(d:src[i]?=some c)(h:decide ((0:Int)≤Lib.indexByte Gk c)=true):DX F p (src.drop i)=.ok ([],src.drop (i+1),adv c p):=by rw[AY d,DD,if_pos h]
theorem PM(d:src[i]?=some c)(h:decide ((0:Int)≤Lib.indexByte Gk c)=false)(D:((c.toNat:Int)==59)=true):DX F p (src.drop i)=.ok ([],Nz (adv c p) (src.drop (i+1))):=by
 rw[AY d,DD,if_neg (by rw[h];decide),if_pos D]
theorem dJ(d:src[i]?=some c)(h:decide ((0:Int)≤Lib.indexByte Gk c)=false)(D:((c.toNat:Int)==59)=false)(G:((c.toNat:Int)==40)=true):DX F p (src.drop i)=.ok ([⟨0,p.1,p.2,0,[]⟩],src.drop (i+1),adv c p):=by
 rw[AY d,DD,if_neg (by rw[h];decide),if_neg (by rw[D];decide),if_pos G]
theorem fA(d:src[i]?=some c)(h:decide ((0:Int)≤Lib.indexByte Gk c)=false)(D:((c.toNat:Int)==59)=false)(G:((c.toNat:Int)==40)=false)(J:((c.toNat:Int)==41)=true):DX F p (src.drop i)=.ok ([⟨1,p.1,p.2,0,[]⟩],src.drop (i+1),adv c p):=by
 rw[AY d,DD,if_neg (by rw[h];decide),if_neg (by rw[D];decide),if_neg (by rw[G];decide),if_pos J]
theorem Md(d:src[i]?=some c)(h:decide ((0:Int)≤Lib.indexByte Gk c)=false)(D:((c.toNat:Int)==59)=false)(G:((c.toNat:Int)==40)=false)(J:((c.toNat:Int)==41)=false)(K:((c.toNat:Int)==34)=true) :
   DX F p (src.drop i)=(match GS p F (adv c p) [] (src.drop (i+1)) with
     |.error e=>.error e
     |.ok (tx,L,O)=>.ok ([⟨4,p.1,p.2,0,tx⟩],L,O)):=by
 rw[AY d,DD,if_neg (by rw[h];decide),if_neg (by rw[D];decide),if_neg (by rw[G];decide),if_neg (by rw[J];decide),if_pos K]
theorem BQ(d:src[i]?=some c)(h:decide ((0:Int)≤Lib.indexByte Gk c)=false)(D:((c.toNat:Int)==59)=false)(G:((c.toNat:Int)==40)=false)(J:((c.toNat:Int)==41)=false)(K:((c.toNat:Int)==34)=false) :
   DX F p (src.drop i)=(match Jq (c::(Fa (adv c p) (src.drop (i+1))).1) with
     |none=>.error p
     |some (k,nm,tx)=>.ok ([⟨k,p.1,p.2,nm,tx⟩],(Fa (adv c p) (src.drop (i+1))).2)):=by
 rw[AY d,DD,if_neg (by rw[h];decide),if_neg (by rw[D];decide),if_neg (by rw[G];decide),if_neg (by rw[J];decide),if_neg (by rw[K];decide)]
end
end Go.SP
namespace Go.SP
theorem LZ(F n:Nat)(p:Ps):HH F n p []=.ok []:=by cases n <;> rfl
def Wj(t:List AB):Except Ps (List AB)→Except Ps (List AB)
 |.error e=>.error e
 |.ok l=>.ok (t++l)
theorem ZK(x:Except Ps (List AB)):Wj [] x=x:=by cases x <;> rfl
theorem Ib(F n:Nat)(p:Ps)(c:UInt8)(r:lU):HH F (n+1) p (c::r)=(match DX F p (c::r) with
   |.error e=>.error e
   |.ok (t,d,h)=>match HH F n h d with
     |.error e=>.error e
     |.ok l=>.ok (t++l)):=rfl
variable {ot toks:List AB}{j n:Nat}{p1:Ps}
theorem Yi{F:Nat}{q e:Ps}{src:lU}{c:UInt8}(d:src[j]?=some c)(he:DX F q (src.drop j)=.error e):HH F (n+1) q (src.drop j)=.error e:=by
 rw[AY d] at he ⊢;rw[Ib,he]
theorem UQ{F:Nat}{q:Ps}{src d:lU}{c:UInt8}{x:Except Ps (List AB)}(D:src[j]?=some c)(h:DX F q (src.drop j)=.ok (ot,d,p1))
   (hm:x=Wj toks (HH F (n+1) q (src.drop j))):x=Wj (toks++ot) (HH F n p1 d):=by
 rw[AY D] at h hm;rw[hm,Ib,h];simp only[]
 cases HH F n p1 d with
 |error e=>rfl
 |ok l=>simp[Wj]
theorem Qh{F:Nat}{p:Ps}{l r:lU}(h:DX F p l=.ok (ot,r,p1)):ot.length≤1:=by
 cases l with
 |nil=>cases h
 |cons c r =>
   rw[DD] at h
   repeat' split at h
   all_goals first
     |(simp only[Except.ok.injEq,Prod.mk.injEq] at h;rw[← h.1];simp)
     |cases h
end Go.SP
namespace Go.Proofs.YtplnpgpagkpnmaaGreatDoor
open Go.SW Go.SP Go.RowKit Go.Proofs.Tryz
theorem NO(w:wO)(s:lU)(hlen:s.length≤100000)(d:Ek (Ba s)=true) :
  AO prog 199 #[S s,iV 10,iV 63] w λv w'=>((∃n,HK s=some n∧v=.tuple #[iV n,.nilIface])∨(HK s=none∧∃z,v=.tuple #[iV z,.iface 322 (iV 1)]))∧AT w w':=by
 rcases KI s with D|⟨r,rfl⟩
 ·
  rw[Ii D] at d;obtain⟨F,G⟩:=Gs d;refine (Q2 w s hlen F G).mono ?_;rintro v w' ⟨⟨J,rfl⟩|⟨K,z,rfl⟩,h⟩
  · exact⟨.inl ⟨_,by rw[Qk D d,if_pos J],C⟩,h⟩
  · exact⟨.inr ⟨by rw[Qk D d,if_neg (by omega)],z,C⟩,h⟩
 ·
  rw[Ik] at d;obtain⟨F,G⟩:=Gs d;refine (RU w r hlen F G).mono ?_;rintro v w' ⟨⟨J,rfl⟩|⟨K,z,rfl⟩,h⟩
  · exact⟨.inl ⟨_,by rw[PL d,if_pos J],C⟩,h⟩
  · exact⟨.inr ⟨by rw[PL d,if_neg (by omega)],z,C⟩,h⟩
theorem Pp(w:wO)(G:Gl w)(s:lU)(hlen:s.length≤100000)(J:Ek (Ba s)=true) :
  AO prog 182 #[S s,iV 10,iV 63] w λv w'=>((∃n,HK s=some n∧v=.tuple #[iV n,.nilIface])∨(HK s=none∧∃z T u,v=.tuple #[iV z,.iface T u]))∧AT w w':=by
 have d:=AT.refl w;refine enter func182 C C C<|Ay [] 11 (λ_=>Az C (Ar vT C C) (NO _ s hlen J) ?_);rintro _ L ⟨(⟨n,F,rfl⟩|⟨F,z,rfl⟩),h⟩;have d:=d.trans h;have HR:=h.size;exact Ax [.sq _] 11 (λ_=>Ab C (HL FR C)<|Ax [.sq _,.sq _] 13 (λ_=>Bw (B5 C (Ak C) (Ak C))<|⟨.inl ⟨n,F,C⟩,d⟩));have d:=d.trans h;have HR:=h.size;refine Ax [.sq _] 11 (λ_=>Ab C (L7 FR C)<|Ax [.sq _,.sq _] 10 (λ_=>Az C (Ar vB C C) (QY _ (G.ext d) _ s _ _ hlen) ?_));rintro _ O ⟨⟨eT,Q,rfl⟩,D⟩;have d:=d.trans D;have K:=D.size;exact Ax [.sq _,.sq _] 6 (λ_=>Bw (B5 C (Ak C) (Ak C))<|⟨.inr ⟨F,z,_,_,C⟩,d⟩)
theorem XW(w:wO)(L:Gl w)(s:lU)(hlen:s.length≤100000) :
  AO prog 153 #[S s] w λv w'=>((∃n,HK s=some n∧v=.tuple #[iV n,iV 0])∨(HK s=none∧∃e:Int,(e==0)=false∧v=.tuple #[iV 0,iV e]))∧AT w w':=by
 have d:=AT.refl w;refine enter func153 C C C<|Ay [] 10 (λ_=>Az C (Ar Vi C C) (FY _ s [45]) ?_);rintro _ Q ⟨rfl,F⟩;have d:=d.trans F;have HR:=F.size;refine Az C (Ar UB C C) (J8 _ (Ba s) (by have:=Fk s;omega)) ?_;rintro _ U ⟨rfl,G⟩;have d:=d.trans G;have O:=G.size;refine Ax [.sq _,.sq _] 3 (λ_=>sP 9 C (λD=>?_) (λD=>?_));have D:=Ee D;exact Ay [.sq _] 9 (λ_=>Bw (B5 C (Ak C) (Ak C))<|⟨.inr ⟨by rw[HK,D];rfl,2,dC,C⟩,d⟩);have D:=Eh D;refine Ay [.sq _] 6 (λ_=>Az C (Ar uK C C) (Pp _ (L.ext d) s hlen D) ?_);rintro _ W ⟨(⟨n,J,rfl⟩|⟨J,z,eT,Y,rfl⟩),h⟩;have d:=d.trans h;have K:=h.size;exact Ax [.sq _] 11 (λ_=>Ab C (HL FR C)<|Ax [.sq _,.sq _] 13 (λ_=>Bw (B5 C (Ak C) (Ak C))<|⟨.inl ⟨n,J,C⟩,d⟩));have d:=d.trans h;have K:=h.size;exact Ax [.sq _] 11 (λ_=>Ab C (L7 FR C)<|Ax [.sq _,.sq _] 11 (λ_=>Bw (B5 C (Ak C) (Ak C))<|⟨.inr ⟨J,4,dC,C⟩,d⟩))
def PFS:Prop:=∀(w:wO)(s a b:lU),Gl w→s.length≤100000→H0 s=some (a,b)→AO prog 184 #[S s,iV 64] w λv w'=>v=.tuple #[.float .f64 (M5 (Pl s) a b),.nilIface]∧AT w w'
theorem sI:Extern.findNext Tryz.f176=none:=kR
theorem yH:Extern.find Tryz.f176=some Extern.MathFloatBits.float64bits:=kR
theorem UG(w:wO)(f:Nat) :
  AO prog 203 #[.float .f64 f] w λv w'=>v=.bool (!(Op.floatEq .f64 f f))∧AT w w':=by
 have d:=AT.refl w;exact enter func203 C C C<|Ay [] 9 (λ_=>Ab C (sG C C)<|Ax [.sq _] 4 (λ_=>Bw (A3 C (Ak C))<|⟨C,d⟩))
theorem jK(w:wO)(f:Nat) :
  AO prog 185 #[.float .f64 f] w λv w'=>v=.int .u64 ((if Op.floatEq .f64 f f then f else 9221120237041090560:Nat):Int)∧AT w w':=by
 have D:=AT.refl w;refine enter func185 C C C<|Ay [] 9 (λ_=>Az C (Ar sF C C) (UG _ f) ?_);rintro _ G ⟨rfl,d⟩;have D:=D.trans d;have HR:=d.size;refine Ax [.sq _,.sq _] 2 (λ_=>sP 4 C (λF=>?_) (λF=>?_));refine Ay [.sq _] 8 (λ_=>Bw (A3 C (Ak C))<|⟨?_,D⟩);have h:=F;simp at h;simp[h];refine Ay [.sq _] 6 (λ_=>Ab C (gB func176 C C sI yH C C C)<|Ax [.sq _] 4 (λ_=>Bw (A3 C (Ak C))<|⟨?_,D⟩));have h:=F;simp at h;simp[h]
theorem N1(W:PFS)(w:wO)(hG:Gl w)(s:lU)(hlen:s.length≤100000) :
  AO prog 154 #[S s] w λv w'=>((∃x:Nat,Il s=some x∧v=.tuple #[.int .u64 (x:Int),iV 0])∨(Il s=none∧∃e:Int,(e==0)=false∧v=.tuple #[.int .u64 0,iV e]))∧AT w w':=by
 have hcl1:=Sv (Ba s) [46];have hcl2:=S5 (Ba s) [46];have hwl:=Fk s;have d:=AT.refl w;refine enter func154 C C C<|Ay [] 9 (λ_=>Az C (Ar Vi C C) (FY _ s [45]) ?_);rintro _ w1 ⟨rfl,J⟩;have d:=d.trans J;have HR:=J.size;refine Az C (Ar uO C C) (dK _ (hG.ext d) (Ba s) [46] (by have:=Fk s;omega)) ?_;rintro _ w2 ⟨rfl,K⟩;have d:=d.trans K;have sz2:=K.size;refine Ax [.sq _] 16 (λ_=>sL 19 C (λD=>?_) (λD=>?_));have D:=Ee D;refine Ax [.sq _,.bk _,.sq _] 22 (λ_=>Bw (B5 C (Ak C) (Ak C))<|⟨.inr ⟨?_,2,dC,C⟩,d⟩);rw[Il,H0,if_neg];simp[D];have D:=Eh D;refine Ax [.sq _,.bk _,.sq _] 1 (λ_=>B6 C C C<|Az C (Ar UB C C) (J8 _ (Lib.cut (Ba s) [46]).1 (by have:=Sv (Ba s) [46];have:=Fk s;omega)) ?_);rintro _ w3 ⟨rfl,L⟩;have d:=d.trans L;have sz3:=L.size;refine Ax [.sq _,.bk _,.sq _] 3 (λ_=>sL 24 C (λF=>?_) (λF=>?_));have F:=Ee F;refine Ax [.sq _,.bk _,.sq _] 17 (λ_=>Bw (B5 C (Ak C) (Ak C))<|⟨.inr ⟨?_,2,dC,C⟩,d⟩);rw[Il,H0,if_neg];simp[D,F];have F:=Eh F;refine Ax [.sq _,.bk _,.sq _] 1 (λ_=>B6 C C C<|Az C (Ar UB C C) (J8 _ (Lib.cut (Ba s) [46]).2.1 (by have:=S5 (Ba s) [46];have:=Fk s;omega)) ?_);rintro _ w4 ⟨rfl,O⟩;have d:=d.trans O;have sz4:=O.size;refine Ax [.sq _,.bk _,.sq _] 5 (λ_=>sP 16 C (λG=>?_) (λG=>?_));have G:=Ee G;refine Ay [.bk _,.sq _] 10 (λ_=>Bw (B5 C (Ak C) (Ak C))<|⟨.inr ⟨?_,2,dC,C⟩,d⟩);rw[Il,H0,if_neg];simp[D,F,G];have G:=Eh G;refine Ay [.bk _,.sq _] 12 (aI ⟨oM,oM⟩<|λ_=>sP 29 C (λY=>?_) (λY=>?_));refine Ay [.bk _,.sq _] 10 (λ_=>Bw (B5 C (Ak C) (Ak C))<|⟨.inr ⟨?_,4,dC,C⟩,d⟩);rw[Il,H0,if_neg];have Z:=Y;simp at Z;simp[D,F,G] <;> omega
 refine Ay [.bk _,.sq _] 5 (λ_=>?_)
 have h:H0 s=some ((Lib.cut (Ba s) [46]).1,(Lib.cut (Ba s) [46]).2.1):=by
  unfold H0;rw[if_pos];have Z:=Y;simp at Z;simp[D,F,G] <;> omega
 refine Ay [.sq _] 2 (λ_=>Az C (Ar xE C C) (W _ s _ _ (hG.ext d) hlen h) ?_);rintro _ w5 ⟨rfl,Q⟩;have d:=d.trans Q;have sz5:=Q.size;refine Ax [.sq _] 11 (λ_=>Ab C (HL FR C)<|Ax [.sq _,.sq _] 8 (λ_=>Az C (Ar vK C C) (jK _ _) ?_));rintro _ w6 ⟨rfl,U⟩;have d:=d.trans U;have sz6:=U.size;exact Ax [.sq _] 5 (λ_=>Bw (B5 C (Ak C) (Ak C))<|⟨.inl ⟨_,by rw[Il,h],C⟩,d⟩)
theorem Wi(w:wO)(x:Nat) :
  AO prog 155 #[.int .u64 (x:Int)] w λv w'=>v=S (On x)∧AT w w':=by
 have h:=AT.refl w;refine enter func155 C C C<|Ay [] 17 (λ_=>?_);refine D7 (λk σ ds w'=>∃(j:Nat)(acc:lU)(K:oA)(rc:Nat),k=j∧ds=[]∧σ=(E3 0 (.int .u64 (x:Int)) 3 (.slice K acc.length rc) 4 (iV (8*(j:Int)-8)))∧j≤8∧On x=acc++PT x j∧acc.length+j=8∧BO w' 5 1 K rc acc.length (bC acc)∧(∀y,rb K=some y→w.heap.size≤y)∧AT w w') 8 (E3 0 (.int .u64 (x:Int)) 3 (.slice none 0 0) 4 (iV (8*((8:Nat):Int)-8))) lE ⟨8,[],none,0,C,C,C,Nat.le_refl _,C,C,F6 _ _ _,(λy Q=>by cases Q),h⟩ ?_;rintro j _ _ wl ⟨_,acc,K,rc,rfl,rfl,rfl,hj,hm,hal,d,D,h⟩;have szl:=h.size;have U:∀y,rb K=some y→y<wl.heap.size:=λy Q=>d.lt Q;refine Ay [] 7 (λ_=>sP 6 C (λW=>?_) (λW=>?_));refine Ay [.sq _] 9 (λ_=>?_);obtain⟨j,rfl⟩:∃j1,j=j1+1:=⟨j-1,by have:=dT W;omega⟩;refine Ab C (WM ((x / 2 ^ (8*j):Nat):Int) C C oM (by rw[show (8*((j+1:Nat):Int)-8).toNat=8*j by omega,show min (8*j) IntKind.u64.bits=8*j by simp[IntKind.bits];omega];exact SB _ _))<|Ab C (Cg (m:=((UInt8.ofNat (x / 2 ^ (8*j))).toNat:Int)) C lW (VQ _))<|BX C C oX zr5 C C C C C λb1 w1 Y L hs1 hz1=>?_;have d:=d.ext L;have h:=h.trans L;refine Cm C uG C C C C d Y C C oM oM λF O w2 Z hG=>?_;have G:∀y,rb F=some y→w.heap.size≤y:=GV hG D oM;have h:=h.grow hG D;refine Ax [.bk _,.sq _] 9 (aI ⟨oM,oM⟩<|λ_=>?_);have J:acc.length+1=(acc++[UInt8.ofNat (x / 2 ^ (8*j))]).length:=by simp
 refine Hh j (E3 0 (.int .u64 (x:Int)) 3 (.slice F (acc++[UInt8.ofNat (x / 2 ^ (8*j))]).length O) 4 (iV (8*(j:Int)-8))) oM (lu3 C (J▸rfl) (congrArg (λz:Int=>some (Value.int .i64 z)) (show (8*((j+1:Nat):Int)-8)-8=8*(j:Int)-8 by omega))) ⟨j,acc++[UInt8.ofNat (x / 2 ^ (8*j))],F,O,C,C,C,oM,by rw[hm];simp[PT],by rw[← J];omega,by rw[← J,bC_app];exact Z,G,h⟩;refine Ay [.sq _] 3 (λ_=>O9<|Es [.bk _,.sq _] 5 (λ_=>Ab C (Ij C WQ d)<|Ax [.sq _] 4 (λ_=>Bw (A3 C (Ak C)) ?_)));have hj0:j=0:=by have:=dF W;omega
 subst hj0;exact⟨by rw[hm];simp[PT],h⟩
theorem Fw(hPF:PFS)(w:wO)(hG:Gl w)(s:lU)(hlen:s.length≤100000)(hne:s≠[])(at1:Ps) :
  BB prog 124 #[S s,.agg #[iV at1.1,iV at1.2]] w (λv w'=>∃k nm tx,Jq s=some (k,nm,tx)∧v=.agg #[iV k,iV at1.1,iV at1.2,iV nm,S tx]∧AT w w') (λc w'=>Jq s=none∧c=RY 158 at1∧AT w w'):=by
 have U:(1:Int)≤s.length:=by
  cases s with
  |nil=>exact absurd C hne
  |cons a r=>simp only[List.length_cons];omega
 have D:=AT.refl w;refine Iw func124 C C C<|Ay [] 2 (λ_=>DM C C C λb1 w1 d hE1 hs1 hz1=>?_);have D:=D.trans hE1;refine C9 C Dt λb2 w2 h hE2 hs2 hz2=>?_;have d:=d.ext hE2;have D:=D.trans hE2;refine Ax [.sq _] 6 (λ_=>Az C (Ar wI C C) (XW _ (hG.ext D) s hlen) ?_);rintro _ w3 ⟨(⟨n,W,rfl⟩|⟨W,er,her,rfl⟩),hE3⟩;have d:=d.ext hE3;have h:=h.ext hE3;have D:=D.trans hE3;have HR:=hE3.size;refine KP [.sq _,.sq _] 19 [0,0] (kB d (Fh _)) (y2<|λ_=>A9 C C C DE C h C C λw4 K F=>?_);have d:=d.chg F oM;have D:=D.chg F oM;have sz2:=F.size;exact Ax [.sq _,.sq _] 4 (λ_=>Bw (A3 C (Ac C DE K C))<|⟨2,n,[],by rw[Jq,W],C,D⟩);have d:=d.ext hE3;have h:=h.ext hE3;have D:=D.trans hE3;have HR:=hE3.size;refine Ax [.sq _,.sq _] 13 (λ_=>kP 16 false C her<|Ay [.sq _] 7 (λ_=>Az C (Ar yD C C) (N1 hPF _ (hG.ext D) s hlen) ?_));rintro _ w4 ⟨(⟨x,hf,rfl⟩|⟨hf,ef,hef,rfl⟩),hE4⟩;have d:=d.ext hE4;have h:=h.ext hE4;have D:=D.trans hE4;have sz2:=hE4.size;refine Ax [.sq _,.sq _] 15 (λ_=>?_);have hr1:=d;refine D9 mixed (A0 w4 [b1]) [(true,0),(true,1),(false,2),(true,3),(false,4)] kR kR C C λw5 Y hz3=>?_;have hKp:A0 w4 [b1] w5:=A0.cons hr1 Y (A0.nil _ _);refine⟨hKp,?_⟩;have d:=d.ext Y;have h:=h.ext Y;have D:=D.trans Y;refine Au C (λ_ hS=>C3 C IL (hr1.keep hS (.head _)) C)<|Au C (λ_ hS=>As C)<|Em<|Az C (Ar sJ C C) (Wi _ x) ?_;rintro _ w6 ⟨rfl,L⟩;have d:=d.ext L;have h:=h.ext L;have D:=D.trans L;have hKp:=hKp.ext L;have sz3:=L.size;refine Al (GD hKp<|Au C (λ_ hS=>Dr C Tc Dt C)<|Em<|A9 C C C DE C h C C λw7 K F=>?_);have d:=d.chg F oM;have D:=D.chg F oM;have hKp:=hKp.chg F nM;have sz4:=F.size;exact Al (GD hKp<|DP<|Es [.sq _,.sq _] 3 (λ_=>Bw (A3 C (Ac C DE K C))<|⟨3,0,On x,by rw[Jq,W];simp only[hf],C,D⟩));have d:=d.ext hE4;have h:=h.ext hE4;have D:=D.trans hE4;have sz2:=hE4.size;refine Ax [.sq _,.sq _] 13 (λ_=>kP 26 false C hef<|Ay [.sq _] 6 (λ_=>Az C (Ar Vi C C) (FY _ s [45]) ?_));rintro _ w5 ⟨rfl,Y⟩;have d:=d.ext Y;have h:=h.ext Y;have D:=D.trans Y;have sz3:=Y.size;refine Ax [.sq _] 11 (λ_=>sL 37 C (λh1=>?_) (λh1=>?_));exact KP [.sq _,.bk _,.sq _] 17 [0,0] (kB d (Fh _)) (y2<|λ_=>Ab C (BF C FM)<|Cb (BA C) (aI C<|⟨by rw[C1 W hf,h1];rfl,C,D⟩));refine Ax [.sq _,.bk _,.sq _] 3 (λ_=>sL 40 C (λh2=>?_) (λh2=>?_));refine Ax [.sq _,.bk _,.sq _] 1 (λ_=>B6 C C C<|Az C (Ar Fl C C) (CA _ (Ba s) (by have:=Fk s;omega) FO dC dC) ?_);rintro _ w6 ⟨rfl,L⟩;have d:=d.ext L;have h:=h.ext L;have D:=D.trans L;have sz4:=L.size;refine Ax [.sq _,.bk _,.sq _] 5 (λ_=>sP 33 C (λh3=>?_) (λh3=>?_));refine Pr [.bk _,.sq _] 7 [0,0] (kB d (Fh _)) (y2<|λ_=>Ab C (BF C FM)<|Cb (BA C) (aI C ?_));have G:(!(Ba s==[]))=true:=h2
 exact⟨by rw[C1 W hf,h1,G,h3];rfl,C,D⟩;refine Ay [.bk _,.sq _] 4 (λ_=>Ab C (GJ C C JW ⟨dC,U⟩)<|Az C (Ar Fl C C) (CA _ (s.take 1) (by simp only[List.length_take];omega) ET dC dC) ?_);rintro _ w7 ⟨rfl,O⟩;have d:=d.ext O;have h:=h.ext O;have D:=D.trans O;have sz5:=O.size;refine Ab C (As C)<|sL 49 C (λZ=>?_) (λZ=>?_);refine Ax [.sq _,.bk _,.sq _] 1 (λ_=>B6 C C C<|Az C (Ar Fl C C) (CA _ (s) oM (ET++Eb++FO) dC dC) ?_);rintro _ w8 ⟨rfl,J⟩;have d:=d.ext J;have h:=h.ext J;have D:=D.trans J;have sz6:=J.size;refine Ax [.sq _,.bk _,.sq _] 4 (λ_=>sP 45 C (λh5=>?_) (λh5=>?_));refine Pr [.bk _,.sq _] 6 [0,0] (kB d (Fh _)) (y2<|λ_=>A9 C C C DE C h C C λw9 K F=>?_);have d:=d.chg F oM;have D:=D.chg F oM;have sz7:=F.size;refine Ax [.sq _,.bk _,.sq _] 5 (λ_=>Bw (A3 C (Ac C DE K C)) ?_);have G:(!(Ba s==[]))=true:=h2;exact⟨6,0,s,by rw[C1 W hf,h1,G,h3,Z,h5];rfl,C,D⟩;refine Ay [.bk _,.sq _] 4 (λ_=>Ab C (GJ C C JW ⟨dC,U⟩)<|Az C (Ar Fl C C) (CA _ (s.take 1) (by simp only[List.length_take];omega) (Eb++Ga) dC dC) ?_);rintro _ w9 ⟨rfl,Q⟩;have d:=d.ext Q;have h:=h.ext Q;have D:=D.trans Q;have sz7:=Q.size;refine Ab C (As C)<|sL 60 C (λh6=>?_) (λh6=>?_);refine Ax [.sq _,.bk _,.sq _] 1 (λ_=>B6 C C C<|Az C (Ar Fl C C) (CA _ (s) oM (ET++Eb++FO++Ga) dC dC) ?_);rintro _ w10 ⟨rfl,hE10⟩;have d:=d.ext hE10;have h:=h.ext hE10;have D:=D.trans hE10;have sz8:=hE10.size;refine Ax [.sq _,.bk _,.sq _] 4 (λ_=>sP 56 C (λh7=>?_) (λh7=>?_));refine Pr [.bk _,.sq _] 6 [0,0] (kB d (Fh _)) (y2<|λ_=>A9 C C C DE C h C C λw11 K F=>?_);have d:=d.chg F oM;have D:=D.chg F oM;have sz9:=F.size;refine Ax [.sq _,.bk _,.sq _] 5 (λ_=>Bw (A3 C (Ac C DE K C)) ?_);have G:(!(Ba s==[]))=true:=h2;exact⟨5,0,s,by rw[C1 W hf,h1,G,h3,Z,h5,h6,h7];rfl,C,D⟩;refine Pr [.bk _,.sq _] 7 [0,0] (kB d (Fh _)) (y2<|λ_=>Ab C (BF C FM)<|Cb (BA C) (aI C ?_));have G:(!(Ba s==[]))=true:=h2;exact⟨by rw[C1 W hf,h1,G,h3,Z,h5,h6,h7];rfl,C,D⟩;refine KP [.sq _,.bk _,.sq _] 13 [0,0] (kB d (Fh _)) (y2<|λ_=>Ab C (BF C FM)<|Cb (BA C) (aI C ?_));have G:(!(Ba s==[]))=true:=h2;exact⟨by rw[C1 W hf,h1,G,h3,Z,h5,h6];rfl,C,D⟩;refine Ax [.sq _,.bk _,.sq _] 10 (λ_=>Ab C (GJ C C JW ⟨dC,U⟩)<|Az C (Ar Fl C C) (CA _ (s.take 1) (by simp only[List.length_take];omega) (Eb++Ga) dC dC) ?_);rintro _ w8 ⟨rfl,J⟩;have d:=d.ext J;have h:=h.ext J;have D:=D.trans J;have sz6:=J.size;refine Ab C (As C)<|sL 60 C (λh5=>?_) (λh5=>?_);refine Ax [.sq _,.bk _,.sq _] 1 (λ_=>B6 C C C<|Az C (Ar Fl C C) (CA _ (s) oM (ET++Eb++FO++Ga) dC dC) ?_);rintro _ w9 ⟨rfl,Q⟩;have d:=d.ext Q;have h:=h.ext Q;have D:=D.trans Q;have sz7:=Q.size
 refine Ax [.sq _,.bk _,.sq _] 4 (λ_=>sP 56 C (λh6=>?_) (λh6=>?_));refine Pr [.bk _,.sq _] 6 [0,0] (kB d (Fh _)) (y2<|λ_=>A9 C C C DE C h C C λw10 K F=>?_);have d:=d.chg F oM;have D:=D.chg F oM;have sz8:=F.size;refine Ax [.sq _,.bk _,.sq _] 5 (λ_=>Bw (A3 C (Ac C DE K C)) ?_);have G:(!(Ba s==[]))=true:=h2;exact⟨5,0,s,by rw[C1 W hf,h1,G,h3,Z,h5,h6];rfl,C,D⟩;refine Pr [.bk _,.sq _] 7 [0,0] (kB d (Fh _)) (y2<|λ_=>Ab C (BF C FM)<|Cb (BA C) (aI C ?_));have G:(!(Ba s==[]))=true:=h2;exact⟨by rw[C1 W hf,h1,G,h3,Z,h5,h6];rfl,C,D⟩;refine KP [.sq _,.bk _,.sq _] 13 [0,0] (kB d (Fh _)) (y2<|λ_=>Ab C (BF C FM)<|Cb (BA C) (aI C ?_));have G:(!(Ba s==[]))=true:=h2;exact⟨by rw[C1 W hf,h1,G,h3,Z,h5];rfl,C,D⟩;refine Ax [.sq _,.bk _,.sq _] 11 (λ_=>Ab C (GJ C C JW ⟨dC,U⟩)<|Az C (Ar Fl C C) (CA _ (s.take 1) (by simp only[List.length_take];omega) ET dC dC) ?_);rintro _ w6 ⟨rfl,L⟩;have d:=d.ext L;have h:=h.ext L;have D:=D.trans L;have sz4:=L.size;refine Ab C (As C)<|sL 49 C (λh3=>?_) (λh3=>?_);refine Ax [.sq _,.bk _,.sq _] 1 (λ_=>B6 C C C<|Az C (Ar Fl C C) (CA _ (s) oM (ET++Eb++FO) dC dC) ?_);rintro _ w7 ⟨rfl,O⟩;have d:=d.ext O;have h:=h.ext O;have D:=D.trans O;have sz5:=O.size;refine Ax [.sq _,.bk _,.sq _] 4 (λ_=>sP 45 C (λZ=>?_) (λZ=>?_));refine Pr [.bk _,.sq _] 6 [0,0] (kB d (Fh _)) (y2<|λ_=>A9 C C C DE C h C C λw8 K F=>?_);have d:=d.chg F oM;have D:=D.chg F oM;have sz6:=F.size;refine Ax [.sq _,.bk _,.sq _] 5 (λ_=>Bw (A3 C (Ac C DE K C)) ?_);have G:(!(Ba s==[]))=false:=h2;exact⟨6,0,s,by rw[C1 W hf,h1,G,h3,Z];rfl,C,D⟩;refine Ay [.bk _,.sq _] 4 (λ_=>Ab C (GJ C C JW ⟨dC,U⟩)<|Az C (Ar Fl C C) (CA _ (s.take 1) (by simp only[List.length_take];omega) (Eb++Ga) dC dC) ?_);rintro _ w8 ⟨rfl,J⟩;have d:=d.ext J;have h:=h.ext J;have D:=D.trans J;have sz6:=J.size;refine Ab C (As C)<|sL 60 C (λh5=>?_) (λh5=>?_);refine Ax [.sq _,.bk _,.sq _] 1 (λ_=>B6 C C C<|Az C (Ar Fl C C) (CA _ (s) oM (ET++Eb++FO++Ga) dC dC) ?_);rintro _ w9 ⟨rfl,Q⟩;have d:=d.ext Q;have h:=h.ext Q;have D:=D.trans Q;have sz7:=Q.size;refine Ax [.sq _,.bk _,.sq _] 4 (λ_=>sP 56 C (λh6=>?_) (λh6=>?_));refine Pr [.bk _,.sq _] 6 [0,0] (kB d (Fh _)) (y2<|λ_=>A9 C C C DE C h C C λw10 K F=>?_);have d:=d.chg F oM;have D:=D.chg F oM;have sz8:=F.size;refine Ax [.sq _,.bk _,.sq _] 5 (λ_=>Bw (A3 C (Ac C DE K C)) ?_);have G:(!(Ba s==[]))=false:=h2;exact⟨5,0,s,by rw[C1 W hf,h1,G,h3,Z,h5,h6];rfl,C,D⟩;refine Pr [.bk _,.sq _] 7 [0,0] (kB d (Fh _)) (y2<|λ_=>Ab C (BF C FM)<|Cb (BA C) (aI C ?_));have G:(!(Ba s==[]))=false:=h2;exact⟨by rw[C1 W hf,h1,G,h3,Z,h5,h6];rfl,C,D⟩
 refine KP [.sq _,.bk _,.sq _] 13 [0,0] (kB d (Fh _)) (y2<|λ_=>Ab C (BF C FM)<|Cb (BA C) (aI C ?_));have G:(!(Ba s==[]))=false:=h2;exact⟨by rw[C1 W hf,h1,G,h3,Z,h5];rfl,C,D⟩;refine Ax [.sq _,.bk _,.sq _] 10 (λ_=>Ab C (GJ C C JW ⟨dC,U⟩)<|Az C (Ar Fl C C) (CA _ (s.take 1) (by simp only[List.length_take];omega) (Eb++Ga) dC dC) ?_);rintro _ w7 ⟨rfl,O⟩;have d:=d.ext O;have h:=h.ext O;have D:=D.trans O;have sz5:=O.size;refine Ab C (As C)<|sL 60 C (λZ=>?_) (λZ=>?_);refine Ax [.sq _,.bk _,.sq _] 1 (λ_=>B6 C C C<|Az C (Ar Fl C C) (CA _ (s) oM (ET++Eb++FO++Ga) dC dC) ?_);rintro _ w8 ⟨rfl,J⟩;have d:=d.ext J;have h:=h.ext J;have D:=D.trans J;have sz6:=J.size;refine Ax [.sq _,.bk _,.sq _] 4 (λ_=>sP 56 C (λh5=>?_) (λh5=>?_));refine Pr [.bk _,.sq _] 6 [0,0] (kB d (Fh _)) (y2<|λ_=>A9 C C C DE C h C C λw9 K F=>?_);have d:=d.chg F oM;have D:=D.chg F oM;have sz7:=F.size;refine Ax [.sq _,.bk _,.sq _] 5 (λ_=>Bw (A3 C (Ac C DE K C)) ?_);have G:(!(Ba s==[]))=false:=h2;exact⟨5,0,s,by rw[C1 W hf,h1,G,h3,Z,h5];rfl,C,D⟩;refine Pr [.bk _,.sq _] 7 [0,0] (kB d (Fh _)) (y2<|λ_=>Ab C (BF C FM)<|Cb (BA C) (aI C ?_));have G:(!(Ba s==[]))=false:=h2;exact⟨by rw[C1 W hf,h1,G,h3,Z,h5];rfl,C,D⟩;refine KP [.sq _,.bk _,.sq _] 13 [0,0] (kB d (Fh _)) (y2<|λ_=>Ab C (BF C FM)<|Cb (BA C) (aI C ?_));have G:(!(Ba s==[]))=false:=h2;exact⟨by rw[C1 W hf,h1,G,h3,Z];rfl,C,D⟩
theorem XP(hPF:PFS)(w0 w:wO)(hG:Gl w0)(hX0:AT w0 w)(b:Nat)(hb0:w0.heap.size≤b)(src:lU)(i:Nat)(p:Ps)(U:List AB)(ta:oA)(tc:Nat)(hsc:AE w b [S src,iV ((i:Nat):Int),iV p.1,iV p.2,(.slice ta U.length tc)] 161)(d:BO w 162 5 ta tc U.length (EM U))(O:∀x,rb ta=some x→w0.heap.size≤x∧x≠b)(c:UInt8)(hc:src[i]?=some c)(hp:Pk i p)(hlen:src.length≤65536)(htl:U.length≤i) :
  BB prog 72 #[pB b] w (λv w'=>∃(ot:List AB)(i1:Nat)(p1:Ps)(ta1:oA)(tc1:Nat),DX (src.length+1) p (src.drop i)=.ok (ot,src.drop i1,p1)∧v=.tuple #[]∧AE w' b [S src,iV ((i1:Nat):Int),iV p1.1,iV p1.2,(.slice ta1 (U++ot).length tc1)] 161∧BO w' 162 5 ta1 tc1 (U++ot).length (EM (U++ot))∧(∀x,rb ta1=some x→w0.heap.size≤x∧x≠b)∧AT w0 w'∧i<i1∧i1≤src.length∧Pk i1 p1) (λcc w'=>∃e,DX (src.length+1) p (src.drop i)=.error e∧cc=RY 158 e∧AT w0 w'):=by
 have hbl:=hsc.lt;have hilt:=Ds hc;have hlowl:∀x,rb ta=some x→x<w.heap.size:=λx hx=>d.lt hx;have J:=hX0;refine Iw func72 C C C<|BL ?_;have hr1:=hsc;refine D9 mixed (A0 w [b]) [(true,0),(true,1),(true,2),(true,3),(true,4),(true,5),(true,6),(true,7),(false,8),(false,9),(true,10)] kR kR C C λw1 hE1 hz1=>?_;have h:A0 w [b] w1:=A0.cons hr1 hE1 (A0.nil _ _);refine⟨h,?_⟩;have hsc:=hsc.ext hE1;have d:=d.ext hE1;have J:=J.trans hE1;refine Au C (λ_ L=>As C)<|Au C (λ_ L=>Ch C)<|Au C (λ_ L=>C7 C Q0)<|Au C (λ_ L=>C3 C IL (hr1.keep L (.head _)) C)<|Au C (λ_ L=>As C)<|Au C (λ_ L=>Ch C)<|Au C (λ_ L=>C7 C EU)<|Au C (λ_ L=>Ai C UD (hr1.keep L (.head _)) C)<|Em<|C9 C Uh λb1 w2 hb1 hE2 hs1 hz2=>?_;have hsc:=hsc.ext hE2;have d:=d.ext hE2;have J:=J.trans hE2;have h:=h.ext hE2;refine Al (GD h<|Em<|A9 C C C IL C hb1 C C λw3 Y hC1=>?_);have hsc:=hsc.chg hC1 oM;have d:=BO.chg d hC1 (λe=>by have:=O _ e;have:=hlowl _ e;omega);have J:=J.chg hC1 oM;have h:=h.chg hC1 nM;have HR:=hC1.size;refine Al (GD h<|Au C (λ_ L=>CQ C)<|DP<|Es [.sq _] 4 (λ_=>Az C (Ar K0 C C) (F2 _ b src i p (.slice ta U.length tc) hsc c hc oM hp) ?_));rintro _ w4 ⟨rfl,Z,hE3⟩;have d:=BO.exb d hE3 (λe=>by have:=O _ e;omega);have Y:=Y.exb hE3 oM;have J:=hE3.ext J hb0;have sz2:=hE3.size;have hp1:=Pk.adv (c:=c) hp;refine Ax [.sq _] 7 (λ_=>Az C (Ar Ry C C) (EG _ Gk _) ?_);rintro _ w5 ⟨rfl,hE4⟩;have d:=d.ext hE4;have Y:=Y.ext hE4;have Z:=Z.ext hE4;have J:=J.trans hE4;have sz3:=hE4.size;refine Ax [.sq _,.bk _] 4 (λ_=>?_)
 ·
  refine sP 53 C (λh1=>?_) (λh1=>?_);exact Ay [.bk _] 3 (λ_=>MK (Gp C)<|⟨[],i+1,adv c p,ta,tc,Tx hc h1,C,by rw[List.append_nil];exact Z,by rw[List.append_nil];exact d,O,J,oM,by have:=Ds hc;omega,hp1⟩);refine Ay [.bk _] 8 (λ_=>sP 57 C (λh2=>?_) (λh2=>?_));refine Ay [.bk _] 2 (λ_=>?_);refine D7 (λk σ ds w'=>∃(j:Nat)(q:Ps),k=src.length-j∧ds=[]∧σ=(AD SW.e0 0 (pB b))∧i<j∧j≤src.length∧Pk j q∧Nz (adv c p) (src.drop (i+1))=Nz q (src.drop j)∧AE w' b [S src,iV ((j:Nat):Int),iV q.1,iV q.2,(.slice ta U.length tc)] 161∧AE w' b1 [iV p.1,iV p.2] 27 ∧ BO w' 162 5 ta tc U.length (EM U)∧AT w0 w') (src.length-(i+1)) (AD SW.e0 0 (pB b)) lE ⟨i+1,adv c p,C,C,C,oM,by have:=Ds hc;omega,hp1,C,Z,Y,d,J⟩ ?_;rintro _ _ _ wl ⟨j,q,rfl,rfl,rfl,hij,hjl,hq,hm,D,K,d,J⟩;have szl:=J.size;have lt2:=K.lt;have lts:=D.lt;refine Ay [] 2 (λ_=>?_);have W:=D;have hr3:=K;refine D9 mixed (A0 wl [b,b1]) [(true,0),(false,1),(true,2),(true,3),(true,4),(true,5),(true,6),(true,7),(true,8),(true,9),(true,10),(true,11),(true,12),(true,13)] kR kR C C λw6 Q hz3=>?_;have h:A0 wl [b,b1] w6:=A0.cons W Q (A0.cons hr3 Q (A0.nil _ _));refine⟨h,?_⟩;have D:=D.ext Q;have K:=K.ext Q;have d:=d.ext Q;have J:=J.trans Q;refine Au C (λ_ L=>As C)<|Em<|Az C (Ar Tl C C) (HJ _ b src j q (.slice ta U.length tc) D) ?_;rintro _ w7 ⟨rfl,F⟩;have D:=D.ext F;have K:=K.ext F;have d:=d.ext F;have J:=J.trans F;have h:=h.ext F;have sz4:=F.size;refine Al (GD h<|Au C (λ_ L=>As C)<|PF 62 C (λh3=>?_) (λh3=>?_));have hjlt:j<src.length:=by have:=dT h3;omega
  obtain⟨c1,hc1⟩:=Kn hjlt;refine Cr C C C h3 (λ_ L=>As C)<|Cr C C C h3 (λ_ L=>Ch C)<|Cr C C C h3 (λ_ L=>C7 C Hr)<|Cr C C C h3 (λ_ L=>Ai C Zv (W.keep L (.head _)) C)<|Cr C C C h3 (λ_ L=>As C)<|Cr C C C h3 (λ_ L=>Ch C)<|Cr C C C h3 (λ_ L=>C7 C EU)<|Cr C C C h3 (λ_ L=>Ai C UD (W.keep L (.head _)) C)<|Cr C C C h3 (λ_ L=>CF (c:=c1) C C JW oM (by rw[Int.toNat_natCast];exact hc1))<|Cr C C C h3 (λ_ L=>eJ C C) ?_;refine Au C (λ_ L=>OD C h3 C)<|DP<|Dd<|sP 73 C (λh4=>?_) (λh4=>?_);refine Ay [.sq _] 6 (λ_=>Az C (Ar K0 C C) (F2 _ b src j q (.slice ta U.length tc) D c1 hc1 oM hq) ?_);rintro _ w8 ⟨rfl,hb4,G⟩;have K:=K.exb G oM;have d:=BO.exb d G (λe=>by have:=O _ e;omega);have J:=G.ext J hb0;have sz5:=G.size;have hp2:=Pk.adv (c:=c1) hq;refine Ax [.bk _] 2 (λ_=>Hh (src.length-(j+1)) (AD SW.e0 0 (pB b)) (by have:=Ds hc1;omega) lE ⟨j+1,adv c1 q,C,C,C,oM,by have:=Ds hc1;omega,hp2,hm.trans (Yw hc1 h4),hb4,K,d,J⟩);exact Ay [.sq _] 3 (λ_=>O9<|Es [.bk _,.bk _] 2 (λ_=>MK (Gp C)<|⟨[],j,q,ta,tc,by rw[PM hc h1 h2,hm,PW (.inr ⟨c1,hc1,h4⟩)],C,by rw[List.append_nil];exact D,by rw[List.append_nil];exact d,O,J,hij,hjl,hq⟩));refine Cq C C C h3<|Cq C C C h3<|Cq C C C h3<|Cq C C C h3<|Cq C C C h3<|Cq C C C h3<|Cq C C C h3<|Cq C C C h3<|Cq C C C h3<|Cq C C C h3 ?_;exact Au C (λ_ L=>N3 C h3 C)<|DP<|Es [.sq _,.sq _] 4 (λ_=>O9<|Es [.bk _,.bk _] 2 (λ_=>MK (Gp C)<|⟨[],j,q,ta,tc,by rw[PM hc h1 h2,hm,PW (.inl (by have:=dF h3;omega))],C,by rw[List.append_nil];exact D,by rw[List.append_nil];exact d,O,J,hij,hjl,hq⟩));refine Ay [.bk _] 8 (λ_=>sP 76 C (λh3=>?_) (λh3=>?_));refine F9 C C ?_;have W:=Y;refine DR mixed (A0 w5 [b1]) (rd [0,1,2,3,5,6] (.br 4 (.br 7 (.br 8 (.rd 9 (.rd 10 (.br 11 .fin .fin))) .fin) .fin) (.br 7 (.br 4 (.br 8 (.rd 9 (.rd 10 (.br 11 .fin .fin))) .fin) .fin) .fin))) kR kR kR λw6 Q hz3=>?_;have h:A0 w5 [b1] w6:=A0.cons W Q (A0.nil _ _);refine⟨h,?_⟩;have d:=d.ext Q;have Y:=Y.ext Q;have Z:=Z.ext Q;have J:=J.trans Q;refine A4 C C (λ_ L=>As C)<|A4 C C (λ_ L=>As C)<|A4 C C (λ_ L=>Ch C)<|A4 C C (λ_ L=>C7 C Gy)<|A4 C C (λ_ L=>C3 C IL (W.keep L (.head _)) C)<|A4 C C (λ_ L=>Dr C Tc Dt C) ?_
  ·
   refine Bu C ?_ ?_;refine Ab C (Ai C CX Z C)<|Al (A1 h<|AI C<|BX C C DV Dt C C C C C λb2 w7 hb4 F hs2 hz4=>?_);have d:=d.ext F;have Y:=Y.ext F;have Z:=Z.ext F;have J:=J.trans F;have h:=h.ext F
   rotate_left
   refine Bu C ?_ ?_;refine BX C C DV Dt C C C C C λb2 w7 hb4 F hs2 hz4=>?_;have d:=d.ext F;have Y:=Y.ext F;have Z:=Z.ext F;have J:=J.trans F;have h:=h.ext F;refine Al (A1 h<|AI C<|Ab C (Ai C CX Z C) ?_)
   rotate_left
   exact BI
   all_goals
    refine Al (A1 h<|AI C<|Cm C Tg C C C C d hb4 C C oM oM λta2 tc2 w8 W hG2=>?_);have hlow2:∀x,rb ta2=some x→w0.heap.size≤x∧x≠b:=GV hG2 O oM;have Z:=Z.grow hG2 (λe=>by have:=O _ e.symm;have:=hlowl _ e.symm;omega);have J:=J.grow hG2 (λx hx=>(O x hx).1);have h:=h.grow hG2 (by simp only[List.mem_cons,List.not_mem_nil,or_false];intro c hc e;have:=O _ e.symm;have:=hlowl _ e.symm;omega);have sz4:=hG2.size;refine Al (A1 h<|A4 C C (λ_ L=>Ch C)<|A4 C C (λ_ L=>C7 C Gy)<|AI C<|A9 C C C CX C Z C C λw9 hb5 hC2=>?_);have W:=BO.chg W hC2 (λe=>by have:=hlow2 _ e;omega);have J:=J.chg hC2 oM;have h:=h.chg hC2 nM;have sz5:=hC2.size;exact Al (A1 h<|Dn<|Jh<|MK (Gp C)<|⟨[⟨0,p.1,p.2,0,[]⟩],i+1,adv c p,ta2,tc2,dJ hc h1 h2 h3,C,by rw[List.length_append];exact hb5,by rw[List.length_append,G8];exact W,hlow2,J,oM,by first|omega|(have:=Ds hc;omega),hp1⟩)
  refine Ay [.bk _] 8 (λ_=>sP 90 C (λh4=>?_) (λh4=>?_));refine F9 C C ?_;have W:=Y;refine DR mixed (A0 w5 [b1]) (rd [0,1,2,3,5,6] (.br 4 (.br 7 (.br 8 (.rd 9 (.rd 10 (.br 11 .fin .fin))) .fin) .fin) (.br 7 (.br 4 (.br 8 (.rd 9 (.rd 10 (.br 11 .fin .fin))) .fin) .fin) .fin))) kR kR kR λw6 Q hz3=>?_;have h:A0 w5 [b1] w6:=A0.cons W Q (A0.nil _ _);refine⟨h,?_⟩;have d:=d.ext Q;have Y:=Y.ext Q;have Z:=Z.ext Q;have J:=J.trans Q;refine A4 C C (λ_ L=>As C)<|A4 C C (λ_ L=>As C)<|A4 C C (λ_ L=>Ch C)<|A4 C C (λ_ L=>C7 C Gy)<|A4 C C (λ_ L=>C3 C IL (W.keep L (.head _)) C)<|A4 C C (λ_ L=>Dr C Tc Dt C) ?_
  ·
   refine Bu C ?_ ?_;refine Ab C (Ai C CX Z C)<|Al (A1 h<|AI C<|BX C C DV Dt C C C C C λb2 w7 hb4 F hs2 hz4=>?_);have d:=d.ext F;have Y:=Y.ext F;have Z:=Z.ext F;have J:=J.trans F;have h:=h.ext F
   rotate_left
   refine Bu C ?_ ?_;refine BX C C DV Dt C C C C C λb2 w7 hb4 F hs2 hz4=>?_;have d:=d.ext F;have Y:=Y.ext F;have Z:=Z.ext F;have J:=J.trans F;have h:=h.ext F;refine Al (A1 h<|AI C<|Ab C (Ai C CX Z C) ?_)
   rotate_left
   exact BI
   all_goals
    refine Al (A1 h<|AI C<|Cm C Tg C C C C d hb4 C C oM oM λta2 tc2 w8 W hG2=>?_);have hlow2:∀x,rb ta2=some x→w0.heap.size≤x∧x≠b:=GV hG2 O oM;have Z:=Z.grow hG2 (λe=>by have:=O _ e.symm;have:=hlowl _ e.symm;omega);have J:=J.grow hG2 (λx hx=>(O x hx).1);have h:=h.grow hG2 (by simp only[List.mem_cons,List.not_mem_nil,or_false];intro c hc e;have:=O _ e.symm;have:=hlowl _ e.symm;omega);have sz4:=hG2.size;refine Al (A1 h<|A4 C C (λ_ L=>Ch C)<|A4 C C (λ_ L=>C7 C Gy)<|AI C<|A9 C C C CX C Z C C λw9 hb5 hC2=>?_);have W:=BO.chg W hC2 (λe=>by have:=hlow2 _ e;omega);have J:=J.chg hC2 oM;have h:=h.chg hC2 nM;have sz5:=hC2.size;exact Al (A1 h<|Dn<|Jh<|MK (Gp C)<|⟨[⟨1,p.1,p.2,0,[]⟩],i+1,adv c p,ta2,tc2,fA hc h1 h2 h3 h4,C,by rw[List.length_append];exact hb5,by rw[List.length_append,G8];exact W,hlow2,J,oM,by first|omega|(have:=Ds hc;omega),hp1⟩)
  refine Ay [.bk _] 8 (λ_=>sP 104 C (λh5=>?_) (λh5=>?_));refine F9 C C ?_;have W:=Y;refine DR mixed (A0 w5 [b1]) (rd [0,1,2,3,5,6] (.br 4 (.br 7 (.br 8 (.br 9 (.rd 10 (.rd 11 (.br 12 .fin .fin))) .fin) .fin) .fin) (.br 7 (.br 4 (.br 8 (.br 9 (.rd 10 (.rd 11 (.br 12 .fin .fin))) .fin) .fin) (.br 8 (.br 4 (.br 9 (.rd 10 (.rd 11 (.br 12 .fin .fin))) .fin) .fin) .fin)) .fin))) kR kR kR λw6 Q hz3=>?_;have h:A0 w5 [b1] w6:=A0.cons W Q (A0.nil _ _);refine⟨h,?_⟩;have d:=d.ext Q;have Y:=Y.ext Q;have Z:=Z.ext Q;have J:=J.trans Q;refine A4 C C (λ_ L=>As C)<|A4 C C (λ_ L=>As C)<|A4 C C (λ_ L=>Ch C)<|A4 C C (λ_ L=>C7 C Gy)<|A4 C C (λ_ L=>As C)<|A4 C C (λ_ L=>C3 C IL (W.keep L (.head _)) C) ?_
  ·
   refine Bu C ?_ ?_;refine Ab C (Ai C CX Z C)<|Al (A1 h<|AI C<|Cc C (Ar aP C C) (RZ _ b src (i+1) (adv c p) (.slice ta U.length tc) Z p (by have:=Ds hc;omega) oM hp1) ?_ (λcc wp hc1=>aI C (let ⟨e,he,hcc,hE⟩:=hc1;⟨e,by rw[Md hc h1 h2 h3 h4 h5,he],hcc,hE.ext J hb0⟩)));rintro _ w7 ⟨tx,i1,p1,hstr,rfl,hb4,F,hi1,hi2,hp1⟩;have d:=BO.exb d F (λe=>by have:=O _ e;omega);have Y:=Y.exb F oM;have J:=F.ext J hb0;have sz4:=F.size;have h:=h.exb F nM;refine Al (A1 h<|AI C<|BX C C DV Dt C C C C C λb2 w8 hb5 G hs2 hz4=>?_);have d:=d.ext G;have Y:=Y.ext G;have hb4:=hb4.ext G;have J:=J.trans G;have h:=h.ext G
   rotate_left
   refine Bu C ?_ ?_;refine Cc C (Ar aP C C) (RZ _ b src (i+1) (adv c p) (.slice ta U.length tc) Z p (by have:=Ds hc;omega) oM hp1) ?_ (λcc wp hc1=>aI C (let ⟨e,he,hcc,hE⟩:=hc1;⟨e,by rw[Md hc h1 h2 h3 h4 h5,he],hcc,hE.ext J hb0⟩));rintro _ w7 ⟨tx,i1,p1,hstr,rfl,hb4,F,hi1,hi2,hp1⟩;have d:=BO.exb d F (λe=>by have:=O _ e;omega);have Y:=Y.exb F oM;have J:=F.ext J hb0;have sz4:=F.size;have h:=h.exb F nM;refine Al (A1 h<|Bu C ?_ ?_);refine Ab C (Ai C CX hb4 C)<|Al (A1 h<|AI C<|BX C C DV Dt C C C C C λb2 w8 hb5 G hs2 hz4=>?_);have d:=d.ext G;have Y:=Y.ext G;have hb4:=hb4.ext G;have J:=J.trans G;have h:=h.ext G
   rotate_left
   refine Bu C ?_ ?_;refine BX C C DV Dt C C C C C λb2 w8 hb5 G hs2 hz4=>?_;have d:=d.ext G;have Y:=Y.ext G;have hb4:=hb4.ext G;have J:=J.trans G;have h:=h.ext G;refine Al (A1 h<|AI C<|Ab C (Ai C CX hb4 C) ?_)
   rotate_left
   exact BI;exact BI
   all_goals
    refine Al (A1 h<|AI C<|Cm C Tg C C C C d hb5 C C oM oM λta2 tc2 w9 W hG2=>?_);have hlow2:∀x,rb ta2=some x→w0.heap.size≤x∧x≠b:=GV hG2 O oM;have hb4:=hb4.grow hG2 (λe=>by have:=O _ e.symm;have:=hlowl _ e.symm;omega);have J:=J.grow hG2 (λx hx=>(O x hx).1);have h:=h.grow hG2 (by simp only[List.mem_cons,List.not_mem_nil,or_false];intro c hc e;have:=O _ e.symm;have:=hlowl _ e.symm;omega);have sz5:=hG2.size;refine Al (A1 h<|A4 C C (λ_ L=>Ch C)<|A4 C C (λ_ L=>C7 C Gy)<|AI C<|A9 C C C CX C hb4 C C λw10 hb6 hC2=>?_);have W:=BO.chg W hC2 (λe=>by have:=hlow2 _ e;omega);have J:=J.chg hC2 oM;have h:=h.chg hC2 nM;have sz6:=hC2.size;exact Al (A1 h<|Dn<|Jh<|MK (Gp C)<|⟨[⟨4,p.1,p.2,0,tx⟩],i1,p1,ta2,tc2,by rw[Md hc h1 h2 h3 h4 h5,hstr],C,by rw[List.length_append];exact hb6,by rw[List.length_append,G8];exact W,hlow2,J,oM,by first|omega|(have:=Ds hc;omega),hp1⟩)
  refine JT C C<|RC (E3 0 (pB b) 2 (pB b1) 3 (iV (i:Int))) (λw'=>∃(j:Nat)(q:Ps),i<j∧j≤src.length∧Pk j q∧Fa (adv c p) (src.drop (i+1))=(EI src (i+1) j,src.drop j,q)∧AE w' b [S src,iV ((j:Nat):Int),iV q.1,iV q.2,(.slice ta U.length tc)] 161∧AE w' b1 [iV p.1,iV p.2] 27 ∧ BO w' 162 5 ta tc U.length (EM U)∧AT w0 w') ?_ ?_;refine DK ?_;refine D7 (λk σ ds w'=>∃(j:Nat)(q:Ps),k=src.length-j∧ds=[]∧σ=(E3 0 (pB b) 2 (pB b1) 3 (iV (i:Int)))∧i<j∧j≤src.length∧Pk j q∧Fa (adv c p) (src.drop (i+1))=(EI src (i+1) j++(Fa q (src.drop j)).1,(Fa q (src.drop j)).2)∧AE w' b [S src,iV ((j:Nat):Int),iV q.1,iV q.2,(.slice ta U.length tc)] 161∧AE w' b1 [iV p.1,iV p.2] 27 ∧ BO w' 162 5 ta tc U.length (EM U)∧AT w0 w') (src.length-(i+1)) (E3 0 (pB b) 2 (pB b1) 3 (iV (i:Int))) lE ⟨i+1,adv c p,C,C,C,oM,by have:=Ds hc;omega,hp1,by rw[Vs];rfl,Z,Y,d,J⟩ ?_;rintro _ _ _ wl ⟨j,q,rfl,rfl,rfl,hij,hjl,hq,hm,D,K,d,J⟩;have szl:=J.size;have lt2:=K.lt;have lts:=D.lt;refine Ay [] 2 (λ_=>?_);have W:=D;have hr3:=K;refine D9 mixed (A0 wl [b,b1]) [(true,0),(false,1),(true,2),(true,3),(true,4),(true,5),(true,6),(true,7),(true,8),(true,9),(true,10),(true,11),(false,12),(true,13),(true,14)] kR kR C C λw6 Q hz3=>?_;have h:A0 wl [b,b1] w6:=A0.cons W Q (A0.cons hr3 Q (A0.nil _ _));refine⟨h,?_⟩;have D:=D.ext Q;have K:=K.ext Q;have d:=d.ext Q;have J:=J.trans Q;refine Au C (λ_ L=>As C)<|Em<|Az C (Ar Tl C C) (HJ _ b src j q (.slice ta U.length tc) D) ?_;rintro _ w7 ⟨rfl,F⟩;have D:=D.ext F;have K:=K.ext F;have d:=d.ext F;have J:=J.trans F;have h:=h.ext F;have sz4:=F.size;refine Al (GD h<|Au C (λ_ L=>As C)<|PF 17 C (λh6=>?_) (λh6=>?_));have hjlt:j<src.length:=by have:=dT h6;omega
  obtain⟨c1,hc1⟩:=Kn hjlt;refine Cr C C C h6 (λ_ L=>As C)<|Cr C C C h6 (λ_ L=>Ch C)<|Cr C C C h6 (λ_ L=>C7 C Hr)<|Cr C C C h6 (λ_ L=>Ai C Zv (W.keep L (.head _)) C)<|Cr C C C h6 (λ_ L=>As C)<|Cr C C C h6 (λ_ L=>Ch C)<|Cr C C C h6 (λ_ L=>C7 C EU)<|Cr C C C h6 (λ_ L=>Ai C UD (W.keep L (.head _)) C)<|Cr C C C h6 (λ_ L=>CF (c:=c1) C C JW oM (by rw[Int.toNat_natCast];exact hc1))<|Em ?_;refine B6 C C h6<|Az C (Ar Ry C C) (EG _ WL _) ?_;rintro _ w8 ⟨rfl,G⟩;have D:=D.ext G;have K:=K.ext G;have d:=d.ext G;have J:=J.trans G;have h:=h.ext G;have sz5:=G.size;refine Al (GD h<|Cr C C C h6 (λ_ L=>V4 C C)<|Au C (λ_ L=>OD C h6 C)<|DP<|Dd<|sP 29 C (λh7=>?_) (λh7=>?_));refine Ay [.sq _] 6 (λ_=>Az C (Ar K0 C C) (F2 _ b src j q (.slice ta U.length tc) D c1 hc1 oM hq) ?_);rintro _ w9 ⟨rfl,hb4,hE8⟩;have K:=K.exb hE8 oM;have d:=BO.exb d hE8 (λe=>by have:=O _ e;omega);have J:=hE8.ext J hb0;have sz6:=hE8.size;have hp2:=Pk.adv (c:=c1) hq;refine Ax [.bk _] 2 (λ_=>Hh (src.length-(j+1)) (E3 0 (pB b) 2 (pB b1) 3 (iV (i:Int))) (by have:=Ds hc1;omega) lE ⟨j+1,adv c1 q,C,C,C,oM,by have:=Ds hc1;omega,hp2,by rw[hm,Vt hc1 h7,V6 (by omega) hc1,List.append_assoc];rfl,hb4,K,d,J⟩);exact Ay [.sq _] 3 (λ_=>O9<|PY<|Qj lE ⟨j,q,hij,hjl,hq,by rw[hm,OL (p:=q) (src:=src) (j:=j) (.inr ⟨c1,hc1,h7⟩),List.append_nil],D,K,d,J⟩);refine Cq C C C h6<|Cq C C C h6<|Cq C C C h6<|Cq C C C h6<|Cq C C C h6<|Cq C C C h6<|Cq C C C h6<|Cq C C C h6<|Cq C C C h6<|Em ?_;exact mX C C C h6<|Al (GD h<|Cq C C C h6<|Au C (λ_ L=>N3 C h6 C)<|DP<|Es [.sq _,.sq _] 4 (λ_=>O9<|PY<|Qj lE ⟨j,q,hij,hjl,hq,by rw[hm,OL (p:=q) (src:=src) (j:=j) (.inl (by have:=dF h6;omega)),List.append_nil],D,K,d,J⟩));rintro wl ⟨j,q,hij,hjl,hq,hm,D,K,d,J⟩;have szl:=J.size;have lt2:=K.lt;have lts:=D.lt;have W:=K
  refine DR mixed (A0 wl [b1]) (rd [0,1,2,3,5,6,7,9,10,11,12,15] (.br 4 (.br 8 (.br 13 (.rd 14 (.br 16 (.br 17 (.br 18 (.rd 19 (.rd 20 (.br 21 .fin .fin))) .fin) .fin) .fin)) .fin) (.br 13 (.br 8 (.rd 14 (.br 16 (.br 17 (.br 18 (.rd 19 (.rd 20 (.br 21 .fin .fin))) .fin) .fin) .fin)) .fin) .fin)) (.br 8 (.br 4 (.br 13 (.rd 14 (.br 16 (.br 17 (.br 18 (.rd 19 (.rd 20 (.br 21 .fin .fin))) .fin) .fin) .fin)) .fin) (.br 13 (.rd 14 (.br 4 (.br 16 (.br 17 (.br 18 (.rd 19 (.rd 20 (.br 21 .fin .fin))) .fin) .fin) .fin) (.br 16 (.br 4 (.br 17 (.br 18 (.rd 19 (.rd 20 (.br 21 .fin .fin))) .fin) .fin) (.br 17 (.br 4 (.br 18 (.rd 19 (.rd 20 (.br 21 .fin .fin))) .fin) .fin) .fin)) .fin))) .fin)) (.br 13 (.br 4 (.br 8 (.rd 14 (.br 16 (.br 17 (.br 18 (.rd 19 (.rd 20 (.br 21 .fin .fin))) .fin) .fin) .fin)) .fin) (.br 8 (.rd 14 (.br 4 (.br 16 (.br 17 (.br 18 (.rd 19 (.rd 20 (.br 21 .fin .fin))) .fin) .fin) .fin) (.br 16 (.br 4 (.br 17 (.br 18 (.rd 19 (.rd 20 (.br 21 .fin .fin))) .fin) .fin) (.br 17 (.br 4 (.br 18 (.rd 19 (.rd 20 (.br 21 .fin .fin))) .fin) .fin) .fin)) .fin))) .fin)) .fin)))) kR kR kR λw6 Q hz3=>?_;have h:A0 wl [b1] w6:=A0.cons W Q (A0.nil _ _);refine⟨h,?_⟩;have D:=D.ext Q;have K:=K.ext Q;have d:=d.ext Q;have J:=J.trans Q;refine A4 C C (λ_ L=>As C)<|A4 C C (λ_ L=>As C)<|A4 C C (λ_ L=>Ch C)<|A4 C C (λ_ L=>C7 C Gy)<|A4 C C (λ_ L=>As C)<|A4 C C (λ_ L=>Ch C)<|A4 C C (λ_ L=>C7 C Hr)<|A4 C C (λ_ L=>As C)<|A4 C C (λ_ L=>As C)<|A4 C C (λ_ L=>Ch C) ?_;refine A4 C C (λ_ L=>C7 C EU)<|A4 C C (λ_ L=>C3 C IL (W.keep L (.head _)) C)<|Bu C ?_ ?_;refine Ab C (Ai C CX D C)<|Al (A1 h ?_)
  focus
   refine Bu C ?_ ?_;refine Ab C (Ai C Zv D C)<|Al (A1 h<|AI C<|Ab C (Ai C UD D C) ?_)
   rotate_left
   refine Bu C ?_ ?_;refine Ab C (Ai C UD D C)<|Al (A1 h<|AI C<|Ab C (Ai C Zv D C) ?_)
   rotate_left
   exact BI
   all_goals
    refine Al (A1 h<|A4 C C (λ_ L=>Mr C C C JW ⟨oM,oM,oM⟩)<|AI C<|Cc C (Ar KB C C) (Fw hPF _ (hG.ext J) (EI src i j) (by have:=Fy src i j;omega) (by rw[Bf hij hc];simp) p) ?_ (λcc wp hc1=>aI C (let ⟨he,hcc,hE⟩:=hc1;⟨p,by rw[BQ hc h1 h2 h3 h4 h5,hm];simp only[];rw[← Bf hij hc,he],hcc,J.trans hE⟩)));rintro _ w7 ⟨wk,wn,wt,hw,rfl,F⟩;have D:=D.ext F;have K:=K.ext F;have d:=d.ext F;have J:=J.trans F;have h:=h.ext F;have sz4:=F.size;have hst2:DX (src.length+1) p (src.drop i)=.ok ([⟨wk,p.1,p.2,wn,wt⟩],src.drop j,q):=by rw[BQ hc h1 h2 h3 h4 h5,hm];simp only[];rw[← Bf hij hc,hw]
    refine Al (A1 h<|AI C<|BX C C DV Dt C C C C C λb2 w8 hb4 G hs2 hz4=>?_);have D:=D.ext G;have K:=K.ext G;have d:=d.ext G;have J:=J.trans G;have h:=h.ext G
  rotate_left 2
  refine Bu C ?_ ?_;refine Ab C (Ai C Zv D C)<|Al (A1 h<|Bu C ?_ ?_);refine Ab C (Ai C CX D C)<|Al (A1 h<|AI C<|Ab C (Ai C UD D C)<|Al (A1 h<|A4 C C (λ_ L=>Mr C C C JW ⟨oM,oM,oM⟩)<|AI C<|Cc C (Ar KB C C) (Fw hPF _ (hG.ext J) (EI src i j) (by have:=Fy src i j;omega) (by rw[Bf hij hc];simp) p) ?_ (λcc wp hc1=>aI C (let ⟨he,hcc,hE⟩:=hc1;⟨p,by rw[BQ hc h1 h2 h3 h4 h5,hm];simp only[];rw[← Bf hij hc,he],hcc,J.trans hE⟩))));rintro _ w7 ⟨wk,wn,wt,hw,rfl,F⟩;have D:=D.ext F;have K:=K.ext F;have d:=d.ext F;have J:=J.trans F;have h:=h.ext F;have sz4:=F.size;have hst2:DX (src.length+1) p (src.drop i)=.ok ([⟨wk,p.1,p.2,wn,wt⟩],src.drop j,q):=by rw[BQ hc h1 h2 h3 h4 h5,hm];simp only[];rw[← Bf hij hc,hw]
  refine Al (A1 h<|AI C<|BX C C DV Dt C C C C C λb2 w8 hb4 G hs2 hz4=>?_);have D:=D.ext G;have K:=K.ext G;have d:=d.ext G;have J:=J.trans G;have h:=h.ext G
  rotate_left
  refine Bu C ?_ ?_;refine Ab C (Ai C UD D C)<|Al (A1 h<|A4 C C (λ_ L=>Mr C C C JW ⟨oM,oM,oM⟩)<|Bu C ?_ ?_);refine Ab C (Ai C CX D C)<|Al (A1 h<|AI C<|Cc C (Ar KB C C) (Fw hPF _ (hG.ext J) (EI src i j) (by have:=Fy src i j;omega) (by rw[Bf hij hc];simp) p) ?_ (λcc wp hc1=>aI C (let ⟨he,hcc,hE⟩:=hc1;⟨p,by rw[BQ hc h1 h2 h3 h4 h5,hm];simp only[];rw[← Bf hij hc,he],hcc,J.trans hE⟩)));rintro _ w7 ⟨wk,wn,wt,hw,rfl,F⟩;have D:=D.ext F;have K:=K.ext F;have d:=d.ext F;have J:=J.trans F;have h:=h.ext F;have sz4:=F.size;have hst2:DX (src.length+1) p (src.drop i)=.ok ([⟨wk,p.1,p.2,wn,wt⟩],src.drop j,q):=by rw[BQ hc h1 h2 h3 h4 h5,hm];simp only[];rw[← Bf hij hc,hw]
  refine Al (A1 h<|AI C<|BX C C DV Dt C C C C C λb2 w8 hb4 G hs2 hz4=>?_);have D:=D.ext G;have K:=K.ext G;have d:=d.ext G;have J:=J.trans G;have h:=h.ext G
  rotate_left
  refine Bu C ?_ ?_;refine Cc C (Ar KB C C) (Fw hPF _ (hG.ext J) (EI src i j) (by have:=Fy src i j;omega) (by rw[Bf hij hc];simp) p) ?_ (λcc wp hc1=>aI C (let ⟨he,hcc,hE⟩:=hc1;⟨p,by rw[BQ hc h1 h2 h3 h4 h5,hm];simp only[];rw[← Bf hij hc,he],hcc,J.trans hE⟩));rintro _ w7 ⟨wk,wn,wt,hw,rfl,F⟩;have D:=D.ext F;have K:=K.ext F;have d:=d.ext F;have J:=J.trans F;have h:=h.ext F;have sz4:=F.size;have hst2:DX (src.length+1) p (src.drop i)=.ok ([⟨wk,p.1,p.2,wn,wt⟩],src.drop j,q):=by rw[BQ hc h1 h2 h3 h4 h5,hm];simp only[];rw[← Bf hij hc,hw]
  refine Al (A1 h<|Bu C ?_ ?_);refine Ab C (Ai C CX D C)<|Al (A1 h<|AI C<|BX C C DV Dt C C C C C λb2 w8 hb4 G hs2 hz4=>?_);have D:=D.ext G;have K:=K.ext G;have d:=d.ext G;have J:=J.trans G;have h:=h.ext G
  rotate_left
  refine Bu C ?_ ?_;refine BX C C DV Dt C C C C C λb2 w8 hb4 G hs2 hz4=>?_;have D:=D.ext G;have K:=K.ext G;have d:=d.ext G;have J:=J.trans G;have h:=h.ext G;refine Al (A1 h<|AI C<|Ab C (Ai C CX D C) ?_)
  rotate_left
  exact BI;exact BI;exact BI;refine Bu C ?_ ?_;refine Ab C (Ai C UD D C)<|Al (A1 h<|Bu C ?_ ?_);refine Ab C (Ai C CX D C)<|Al (A1 h<|AI C<|Ab C (Ai C Zv D C)<|Al (A1 h<|A4 C C (λ_ L=>Mr C C C JW ⟨oM,oM,oM⟩)<|AI C<|Cc C (Ar KB C C) (Fw hPF _ (hG.ext J) (EI src i j) (by have:=Fy src i j;omega) (by rw[Bf hij hc];simp) p) ?_ (λcc wp hc1=>aI C (let ⟨he,hcc,hE⟩:=hc1;⟨p,by rw[BQ hc h1 h2 h3 h4 h5,hm];simp only[];rw[← Bf hij hc,he],hcc,J.trans hE⟩))));rintro _ w7 ⟨wk,wn,wt,hw,rfl,F⟩;have D:=D.ext F;have K:=K.ext F;have d:=d.ext F;have J:=J.trans F;have h:=h.ext F;have sz4:=F.size;have hst2:DX (src.length+1) p (src.drop i)=.ok ([⟨wk,p.1,p.2,wn,wt⟩],src.drop j,q):=by rw[BQ hc h1 h2 h3 h4 h5,hm];simp only[];rw[← Bf hij hc,hw]
  refine Al (A1 h<|AI C<|BX C C DV Dt C C C C C λb2 w8 hb4 G hs2 hz4=>?_);have D:=D.ext G;have K:=K.ext G;have d:=d.ext G;have J:=J.trans G;have h:=h.ext G
  rotate_left
  refine Bu C ?_ ?_;refine Ab C (Ai C Zv D C)<|Al (A1 h<|A4 C C (λ_ L=>Mr C C C JW ⟨oM,oM,oM⟩)<|Bu C ?_ ?_);refine Ab C (Ai C CX D C)<|Al (A1 h<|AI C<|Cc C (Ar KB C C) (Fw hPF _ (hG.ext J) (EI src i j) (by have:=Fy src i j;omega) (by rw[Bf hij hc];simp) p) ?_ (λcc wp hc1=>aI C (let ⟨he,hcc,hE⟩:=hc1;⟨p,by rw[BQ hc h1 h2 h3 h4 h5,hm];simp only[];rw[← Bf hij hc,he],hcc,J.trans hE⟩)));rintro _ w7 ⟨wk,wn,wt,hw,rfl,F⟩;have D:=D.ext F;have K:=K.ext F;have d:=d.ext F;have J:=J.trans F;have h:=h.ext F;have sz4:=F.size;have hst2:DX (src.length+1) p (src.drop i)=.ok ([⟨wk,p.1,p.2,wn,wt⟩],src.drop j,q):=by rw[BQ hc h1 h2 h3 h4 h5,hm];simp only[];rw[← Bf hij hc,hw]
  refine Al (A1 h<|AI C<|BX C C DV Dt C C C C C λb2 w8 hb4 G hs2 hz4=>?_);have D:=D.ext G;have K:=K.ext G;have d:=d.ext G;have J:=J.trans G;have h:=h.ext G
  rotate_left
  refine Bu C ?_ ?_;refine Cc C (Ar KB C C) (Fw hPF _ (hG.ext J) (EI src i j) (by have:=Fy src i j;omega) (by rw[Bf hij hc];simp) p) ?_ (λcc wp hc1=>aI C (let ⟨he,hcc,hE⟩:=hc1;⟨p,by rw[BQ hc h1 h2 h3 h4 h5,hm];simp only[];rw[← Bf hij hc,he],hcc,J.trans hE⟩));rintro _ w7 ⟨wk,wn,wt,hw,rfl,F⟩;have D:=D.ext F;have K:=K.ext F;have d:=d.ext F;have J:=J.trans F;have h:=h.ext F;have sz4:=F.size;have hst2:DX (src.length+1) p (src.drop i)=.ok ([⟨wk,p.1,p.2,wn,wt⟩],src.drop j,q):=by rw[BQ hc h1 h2 h3 h4 h5,hm];simp only[];rw[← Bf hij hc,hw]
  refine Al (A1 h<|Bu C ?_ ?_);refine Ab C (Ai C CX D C)<|Al (A1 h<|AI C<|BX C C DV Dt C C C C C λb2 w8 hb4 G hs2 hz4=>?_);have D:=D.ext G;have K:=K.ext G;have d:=d.ext G;have J:=J.trans G;have h:=h.ext G
  rotate_left
  refine Bu C ?_ ?_;refine BX C C DV Dt C C C C C λb2 w8 hb4 G hs2 hz4=>?_;have D:=D.ext G;have K:=K.ext G;have d:=d.ext G;have J:=J.trans G;have h:=h.ext G;refine Al (A1 h<|AI C<|Ab C (Ai C CX D C) ?_)
  rotate_left
  exact BI;exact BI;exact BI;exact BI
  all_goals
   refine Al (A1 h<|AI C<|Cm C Tg C C C C d hb4 C C oM oM λta2 tc2 w9 W hG2=>?_);have hlow2:∀x,rb ta2=some x→w0.heap.size≤x∧x≠b:=GV hG2 O oM;have D:=D.grow hG2 (λe=>by have:=O _ e.symm;have:=hlowl _ e.symm;omega);have K:=K.grow hG2 (λe=>by have:=O _ e.symm;have:=hlowl _ e.symm;omega);have J:=J.grow hG2 (λx hx=>(O x hx).1);have h:=h.grow hG2 (by simp only[List.mem_cons,List.not_mem_nil,or_false];intro c hc e;have:=O _ e.symm;have:=hlowl _ e.symm;omega);have sz5:=hG2.size;refine Al (A1 h<|A4 C C (λ_ L=>Ch C)<|A4 C C (λ_ L=>C7 C Gy)<|AI C<|A9 C C C CX C D C C λw10 hb5 hC2=>?_);have K:=K.chg hC2 oM;have W:=BO.chg W hC2 (λe=>by have:=hlow2 _ e;omega);have J:=J.chg hC2 oM;have h:=h.chg hC2 nM;have sz6:=hC2.size;exact Al (A1 h<|Dn<|Jh<|MK (Gp C)<|⟨[⟨wk,p.1,p.2,wn,wt⟩],j,q,ta2,tc2,hst2,C,by rw[List.length_append];exact hb5,by rw[List.length_append,G8];exact W,hlow2,J,oM,by first|omega|(have:=Ds hc;omega),hq⟩)

theorem TO(w:wO)(c2 c3 c4:Nat) :
  CallsD prog 70 [pB c2,pB c3,pB c4].toArray .returning w λr m w'=>∃x,r=.returned x∧m=.returning∧(AT w w'):=by
 have d:=AT.refl w;refine De (R:=λw'=>AT w w') func70 C C C C NS<|DK<|BL<|C4<|Ab C (R4 rD C)<|Al<|Dd<|F9 C C<|C4<|Ab C (CQ C) ?_;exact Al<|Jh<|MK (Gp C)<|d
theorem Vz(w0 w:wO)(hX0:AT w0 w)(c2 c3 c4:Nat)(v2 x3 y3 v4:Value)(G:AE w c2 [v2] 104)(h:AE w c3 [x3,y3] 27)(d:AE w c4 [v4] 28)(g2:w0.heap.size≤c2)(g3:w0.heap.size≤c3)(g4:w0.heap.size≤c4)(n23:c2≠c3)(n24:c2≠c4)(n34:c3≠c4)(e:Int×Int) :
  CallsD prog 70 [pB c2,pB c3,pB c4].toArray (.panicking (RY 158 e)) w λr m w'=>∃x,r=.returned x∧m=.panicking [{v:=.iface 158 (.agg #[iV e.1,iV e.2]),recovered:=true}]∧(AT w0 w'∧AE w' c2 [.slice none 0 0] 104∧AE w' c3 [iV e.1,iV e.2] 27∧AE w' c4 [iV 10] 28):=by
 have l2:=G.lt;have l3:=h.lt;have l4:=d.lt;have J:=hX0;have szx:=J.size;refine De (R:=λw'=>AT w0 w'∧AE w' c2 [.slice none 0 0] 104∧AE w' c3 [iV e.1,iV e.2] 27∧AE w' c4 [iV 10] 28) func70 C C C C RV<|DK<|BL<|C4<|Ab C (QM rD C)<|Al<|Dd<|JT C C<|BL<|C4 ?_;refine Ab C (Vr C vC)<|Ab C (UM C C)<|Ab C (UM C C)<|Al<|Dd<|F9 C C<|BL<|C4<|C9 C rI λb1 w1 hb1 Y hs1 hz1=>?_;have G:=G.ext Y;have h:=h.ext Y;have d:=d.ext Y;have J:=J.trans Y;refine A9 C C C ti158 C hb1 C C λw2 F U=>?_;have G:=G.chg U oM;have h:=h.chg U oM;have d:=d.chg U oM;have J:=J.chg U oM;have HR:=U.size;refine Al<|Dd ?_;have hr1:=F;refine D9 mixed (A0 w2 [b1]) [(true,0),(true,1),(false,2),(false,3),(false,4)] kR kR C C λw3 K hz2=>?_;have D:A0 w2 [b1] w3:=A0.cons hr1 K (A0.nil _ _);refine⟨D,?_⟩;have G:=G.ext K;have h:=h.ext K;have d:=d.ext K;have F:=F.ext K;have J:=J.trans K;refine Au C (λ_ hS=>C7 C nC)<|Au C (λ_ hS=>C3 C IL (hr1.keep hS (.head _)) C)<|Em<|A9 C C C CX C G C C λw4 W L=>?_;have h:=h.chg L oM;have d:=d.chg L oM;have F:=F.chg L oM;have J:=J.chg L oM;have D:=D.chg L nM;have sz2:=L.size;refine Al (GD D<|Em<|A9 C C C IL C h C C λw5 Z O=>?_);have W:=W.chg O oM;have d:=d.chg O oM;have F:=F.chg O oM;have J:=J.chg O oM;have D:=D.chg O nM;have sz3:=O.size;refine Al (GD D<|Em<|A9 C C C Y4 C d C C λw6 hb5 Q=>?_);have W:=W.chg Q oM;have Z:=Z.chg Q oM;have F:=F.chg Q oM;have J:=J.chg Q oM;have D:=D.chg Q nM;have sz4:=Q.size;exact Al (GD D<|DP<|Jh<|MK (Gp C)<|⟨J,W,Z,hb5⟩)
def ScanR(w w':wO)(v:Value):Except (Int×Int×Int) (List AB)→Prop
 |.error e=>v=.tuple #[.slice none 0 0,.agg #[iV e.1,iV e.2.1],iV e.2.2]∧AT w w'
 |.ok d=>∃h D,v=.tuple #[.slice h d.length D,.agg #[iV 0,iV 0],iV 0]∧(BO w' 162 5 h D d.length (EM d)∧∀b,rb h=some b→w.heap.size≤b)∧AT w w'
theorem Qe(hPF:PFS)(w:wO)(hG:Gl w)(src:lU) :
  AO prog 30 #[S src] w λv w'=>ScanR w w' v (LQ src):=by
 have G:=AT.refl w;refine yR (l:=[S src]) func30 C C C<|BL<|C4<|C9 C zr104 λb1 w1 W hE1 hs1 hz1=>?_;have G:=G.trans hE1;refine C9 C Uh λb2 w2 Y hE2 hs2 hz2=>?_;have W:=W.ext hE2;have G:=G.trans hE2;refine C9 C zr28 λb3 w3 Z hE3 hs3 hz3=>?_;have W:=W.ext hE3;have Y:=Y.ext hE3;have G:=G.trans hE3;refine Al<|Dd<|BL<|BL<|C4<|Ab C (As C)<|Ab C (MZ C JW)<|Ab C (ZW C C)<|Al<|Dd ?_;refine N2 C (λh1=>?_) (λh1=>?_);refine BL<|C4<|Ab C (Dr C tK Uh C)<|A9 C C C CX C W C C λw4 hb4 J=>?_;have Y:=Y.chg J oM;have Z:=Z.chg J oM;have G:=G.chg J oM;have HR:=J.size;refine A9 C C C IL C Y C C λw5 Q K=>?_;have hb4:=hb4.chg K oM;have Z:=Z.chg K oM;have G:=G.chg K oM;have sz2:=K.size;refine A9 C C C Y4 C Z C C λw6 hb6 L=>?_;have hb4:=hb4.chg L oM;have Q:=Q.chg L oM;have G:=G.chg L oM;have sz3:=L.size;exact Al<|Dd<|JV<|W9<|λtmps hσ=>DF hσ (Ez C (CZ C CX hb4 C) (Ac C IL Q C) (CZ C Y4 hb6 C)) ⟨_,C,by rw[LQ,if_pos h1];exact⟨C,G⟩⟩;refine HU<|Dd<|BL<|C4<|Ab C (VD C)<|Qs C ?_;have hlen:src.length≤65536:=by have:=dF h1;omega
 refine Al<|Dd<|BL ?_;have hb1B:=W;have hb2B:=Y;have hb3B:=Z;have hX0:=G;refine C4<|Ab C (As C)<|Ab C (Dr C tK Uh C)<|Ab C (Dr C pl161 zr161 C)<|DM C C C λb4 w4 hb4 hE4 hs4 hz4=>?_;have W:=W.ext hE4;have Y:=Y.ext hE4;have Z:=Z.ext hE4;have G:=G.trans hE4;refine Ab C (CQ C)<|Al<|Dd<|BL<|DK ?_;refine D7 (λk σ ds w'=>∃(j n:Nat)(q:Ps)(h:List AB)(ta:oA)(tc:Nat),k=src.length-j∧ds=[{target:=.fn (.func 70) ([pB b1,pB b2,pB b3]:lV).toArray,args:=#[]}]∧σ=(E4 2 (pB b1) 3 (pB b2) 4 (pB b3) 5 (pB b4))∧j≤src.length∧src.length≤j+n∧Pk j q∧h.length≤j∧HH (src.length+1) src.length (1,1) src=Wj h (HH (src.length+1) n q (src.drop j))∧AE w' b4 [S src,iV ((j:Nat):Int),iV q.1,iV q.2,(.slice ta h.length tc)] 161∧BO w' 162 5 ta tc h.length (EM h)∧(∀x,rb ta=some x→w3.heap.size≤x∧x≠b4)∧AT w3 w') src.length (E4 2 (pB b1) 3 (pB b2) 4 (pB b3) 5 (pB b4)) lE ⟨0,src.length,(1,1),[],none,0,C,C,C,oM,oM,⟨dC,dC,dC,dC⟩,by simp,(ZK _).symm,hb4,F6 _ _ _,(λx hx=>by cases hx),hE4⟩ ?_;rintro _ _ _ wl ⟨j,n,q,h,ta,tc,rfl,rfl,rfl,hjl,hn,hq,htl,hm,d,D,hlow,U⟩;have szl:=U.size;have lts:=d.lt;have G:=hX0.trans U;have hb1Bl:=hb1B.ext U;have O:=hb2B.ext U;have F:=hb3B.ext U;refine BL<|BL<|C4<|Ab C (As C)<|Az C (Ar Tl C C) (HJ _ b4 src j q (.slice ta h.length tc) d) ?_;rintro _ w5 ⟨rfl,hE5⟩;have hb1Bl:=hb1Bl.ext hE5;have O:=O.ext hE5;have F:=F.ext hE5;have d:=d.ext hE5;have D:=D.ext hE5;have G:=G.trans hE5;have U:=U.trans hE5;have HR:=hE5.size;refine Al<|Dd<|N2 C (λh2=>?_) (λh2=>?_);refine HU<|Dd<|DK<|C4<|Ab C (As C) ?_;obtain⟨c,hc⟩:=Kn (show j<src.length by have:=dT h2;omega);obtain⟨n,rfl⟩:∃n1,n=n1+1:=⟨n-1,by have:=Ds hc;omega⟩;refine Cc C (Ar ent72 C C) (XP hPF w3 _ (hG.ext hX0) U b4 oM src j q h ta tc d D hlow c hc hq hlen htl) ?_ (λcc wp hcc tmps hσ=>by obtain⟨e,he,rfl,hE⟩:=hcc;have sz:=hE.size;exact Fj (by simp) pS (Vz w wp (hX0.trans hE) b1 b2 b3 _ _ _ _ (hb1B.ext hE) (hb2B.ext hE) (hb3B.ext hE) oM oM oM oM oM oM e) (λwz hz=>by rw[KE];obtain⟨h1,h2,h3,h4⟩:=hz;exact DF hσ (Ez C (CZ C CX h2 C) (Ac C IL h3 C) (CZ C Y4 h4 C)) ⟨_,C,by rw[LQ,if_neg (by rw[decide_eq_true_eq];omega),hm,Yi hc he,Wj];exact⟨C,h1⟩⟩));rintro _ w6 ⟨ot,i1,p1,ta1,tc1,hst,rfl,hsc2,hrow2,hlow2,hX2,hi1,hi2,hp1⟩;have hot:(h++ot).length≤i1:=by have:=Qh hst;rw[List.length_append];omega
 have hm2:=UQ hc hst hm;refine Al<|Jh<|Hh (src.length-i1) (E4 2 (pB b1) 3 (pB b2) 4 (pB b3) 5 (pB b4)) oM lE ⟨i1,n,p1,h++ot,ta1,tc1,C,C,C,hi2,oM,hp1,hot,hm2,hsc2,hrow2,hlow2,hX2⟩;refine Lk<|Xi<|O9<|PY<|Dd<|BL<|C4<|Ab C (As C)<|Ab C (Ch C)<|Ab C (C7 C Gy) ?_;refine Ab C (Ai C CX d C)<|Ab C (Dr C tK Uh C)<|A9 C C C CX C hb1Bl C C λw6 Q J=>?_;have O:=O.chg J oM;have F:=F.chg J oM;have d:=d.chg J oM;have D:=BO.chg D J (λe=>by have:=hlow _ e;omega);have G:=G.chg J oM;clear U;have sz2:=J.size;refine A9 C C C IL C O C C λw7 hb6 K=>?_;have Q:=Q.chg K oM;have F:=F.chg K oM;have d:=d.chg K oM;have D:=BO.chg D K (λe=>by have:=hlow _ e;omega);have G:=G.chg K oM;have sz3:=K.size;refine A9 C C C Y4 C F C C λw8 hb7 L=>?_;have Q:=Q.chg L oM;have hb6:=hb6.chg L oM;have d:=d.chg L oM;have D:=BO.chg D L (λe=>by have:=hlow _ e;omega);have G:=G.chg L oM;have sz4:=L.size;refine Al<|Dd<|JV ?_;intro tmps hσ;refine Fj (by simp) pS (TO _ b1 b2 b3) λwz hz=>?_;have hlx:LQ src=.ok h:=by rw[LQ,if_neg (by rw[decide_eq_true_eq];omega),hm,Jl (by have:=dF h2;omega),LZ];simp[Wj]
 refine DF hσ (Ez C (CZ C CX (Q.ext hz) C) (Ac C IL (hb6.ext hz) C) (CZ C Y4 (hb7.ext hz) C)) ⟨_,C,?_⟩;rw[hlx];exact⟨ta,tc,C,⟨D.ext hz,λx hx=>by have:=hlow x hx;omega⟩,G.trans hz⟩
end Go.Proofs.YtplnpgpagkpnmaaGreatDoor
namespace Go.SP
open Go.SW Go.RowKit
def GM(l:lU):Prop:=∀c∈l,48≤c.toNat∧c.toNat≤57
def FV(b:lU):Bool→lU→Prop
 |false,rest=>∃a2,rest=a2++46::b∧GM a2
 |true,rest=>GM rest∧rest.length≤b.length
variable {dot:Bool}
theorem FV.cons{b r:lU}{c:UInt8}(h:FV b dot (c::r)):(c=46∧dot=false∧r=b)∨((48≤c.toNat∧c.toNat≤57)∧FV b dot r):=by
 cases dot with
 |false =>
   obtain⟨a2,D,G⟩:=h
   cases a2 with
   |nil=>left;simp at D;exact⟨D.1,C,D.2⟩
   |cons d a3 =>
     right
     simp at D;exact⟨D.1▸G d (.head _),a3,D.2,λx F=>G x (.tail _ F)⟩
 |true=>exact .inr ⟨h.1 c (.head _),λx F=>h.1 x (.tail _ F),by have:=h.2;simp only[List.length_cons] at this;omega⟩
theorem FV.nil{b:lU}(h:FV b dot []):dot=true:=by
 cases dot with
 |false=>obtain⟨a2,d,_⟩:=h;cases a2 <;> cases d
 |true=>rfl
def Jy(l:lU):lU:=l.filter (λc=>c != 46)
theorem UW{l:lU}(h:GM l):Jy l=l:=by
 unfold Jy;rw[List.filter_eq_self];intro c d;have:=h c d;have D:c≠46:=λe=>by subst e;revert this;decide
 simpa using D
theorem Ih{c:UInt8}{l:lU}(h:48≤c.toNat∧c.toNat≤57):Jy (c::l)=c::Jy l:=by
 unfold Jy;rw[List.filter_cons_of_pos];have d:c≠46:=λe=>by subst e;revert h;decide
 simpa using d
theorem Pw(l:lU):Jy (46::l)=Jy l:=by
 unfold Jy;rw[List.filter_cons_of_neg];simp
theorem YO{a b:lU}(d:GM a)(h:GM b):Jy (a++46::b)=a++b:=by
 induction a with
 |nil=>rw[List.nil_append,Pw,UW h,List.nil_append]
 |cons c a D=>rw[List.cons_append,Ih (d c (.head _)),D λx F=>d x (.tail _ F)];rfl
theorem OH(n:Nat)(c:UInt8)(l:lU):CH n (c::l)=CH (n*10+(c.toNat-48)) l:=by conv=>lhs;unfold CH
theorem gR(n:Nat):CH n []=n:=by conv=>lhs;unfold CH
theorem Qn:∀(l:lU)(n:Nat),n≤CH n l
 | [],n=>Nat.le_refl _
 |c::l,n=>by
   have:=Qn l (n*10+(c.toNat-48));rw[OH];omega
theorem X1:∀(l:lU)(n:Nat),GM l→CH n l<(n+1)*10 ^ l.length
 | [],n,_=>by
   rw[gR,List.length_nil,Nat.pow_zero];omega
 |c::l,n,h=>by
   have F:=h c (.head _);have:=X1 l (n*10+(c.toNat-48)) λx d=>h x (.tail _ d);rw[OH,List.length_cons,Nat.pow_succ];refine Nat.lt_of_lt_of_le this ?_;have D:n*10+(c.toNat-48)+1≤(n+1)*10:=oM
   calc (n*10+(c.toNat-48)+1)*10 ^ l.length≤(n+1)*10*10 ^ l.length:=Nat.mul_le_mul_right _ D
     _=(n+1)*(10 ^ l.length*10):=by rw[Nat.mul_assoc,Nat.mul_comm 10]
theorem Pf{l:lU}(h:GM l)(d:l.length≤15):CH 0 l<1000000000000000:=by
 have D:=X1 l 0 h;have F:10 ^ l.length≤10 ^ 15:=Nat.pow_le_pow_right dC d;have G:(10:Nat) ^ 15=1000000000000000:=dC;omega
theorem low46:∀n:Fin 58,46≤n.val→IntKind.u8.wrap (BitVec.ofInt 8 (n.val:Int) ||| BitVec.ofInt 8 32).toNat=(n.val:Int):=dC
theorem oL{z:lU}(h:(Lib.cut z [46]).2.2=true):z=(Lib.cut z [46]).1++46::(Lib.cut z [46]).2.1:=by
 unfold Lib.cut at h ⊢
 split at h
 · rename_i F
   rw[if_pos F];rcases Lib.index_spec z [46] with ⟨D,_⟩|⟨i,D,L,d,_⟩
   · omega
   · simp only[D,Int.toNat_natCast,List.length_cons,List.length_nil]
     unfold Lib.occAt at d
     cases hd:z.drop i with
     |nil=>rw[hd] at d;cases d
     |cons c t =>
       rw[hd] at d
       have G:c=46:=by
         have J:(46:UInt8)=c:=by simpa[List.isPrefixOf] using d
         exact J.symm
       have K:z.drop (i+(0+1))=t:=by
         rw[← List.drop_drop,hd];rfl
       rw[K,← G,← hd,List.take_append_drop]
 · cases h
theorem Ra{s a b:lU}(h:H0 s=some (a,b)):GM a∧GM b∧a≠[]∧b≠[]∧a.length+b.length≤15∧Ba s=a++46::b:=by
 unfold H0 at h;simp only at h
 split at h
 · rename_i d
   simp only[Bool.and_eq_true,decide_eq_true_eq] at d;obtain⟨D,F,G,J⟩:=d;simp only[Option.some.injEq,Prod.mk.injEq] at h;obtain⟨rfl,rfl⟩:=h;have d1:=Gs F;have d2:=Gs G;exact⟨d1.2,d2.2,by simpa using d1.1,by simpa using d2.1,oM,oL D⟩
 · cases h
end Go.SP
namespace Go.SP
variable {j:Nat}
theorem JX{s r:lU}{c:UInt8}(h:s.drop j=c::r):s.drop (j+1)=r:=by
 rw[← List.drop_drop,h];rfl
theorem QX{s r:lU}{c:UInt8}(h:s.drop j=c::r):s[j]?=some c:=by
 have:(s.drop j)[0]?=some c:=by rw[h];rfl
 simpa using this
theorem XJ(o:Nat){s a b:lU}(D:GM a)(d:a≠[])(h:s.drop o=a++46::b):∃c,s[((o:Int)+1).toNat]?=some c∧46≤c.toNat∧c.toNat≤57:=by
 have e:((o:Int)+1).toNat=o+1:=oM;rw[e];rcases a with _|⟨x,_|⟨y,a⟩⟩
 · exact absurd C d
 · exact⟨46,QX (r:=b) (JX (c:=x) (by simpa using h)),dC,dC⟩
 · have:=D y (.tail _ (.head _))
   exact⟨y,QX (r:=a++46::b) (JX (c:=x) (by simpa using h)),oM,oM⟩
end Go.SP
namespace Go.SP
open Ieee
variable {k:Nat}
theorem Yn{d e:Datum}(G:d.isNaN=false)(h:e.isNaN=false∧e.isInfinity=false∧e.isZero=false):∃r,d.quotient k e=some r:=by
 obtain⟨h,D,J⟩:=h
 cases d with
 |nan s t=>cases G
 |infinity s=>cases e with
   |nan s t=>cases h
   |infinity s=>cases D
   |number s m p=>exact⟨_,C⟩
 |number s m p=>cases e with
   |nan s t=>cases h
   |infinity s=>cases D
   |number s' F K =>
     cases F with
     |zero=>cases J
     |succ F=>exact⟨_,C⟩
theorem Zi{x:Nat}(h:x % 9223372036854775808≤9218868437227405312):(double.read x).isNaN=false:=by
 unfold Format.read;simp only[show double.signWeight=9223372036854775808 from by decide,show double.infRung=9218868437227405312 from by decide]
 split
 · rfl
 · split
   · rfl
   · split
     · rfl
     · omega
theorem R7(m:Nat):FloatKind.f64.nearest (m:Int)≤9218868437227405312:=by
 unfold FloatKind.nearest FloatKind.encode;have d:decide ((m:Int)<0)=false:=by simp
 rw[d];show double.nearest false m 0≤_;unfold Format.nearest
 split
 · decide
 · simp only[Format.word,Bool.false_eq_true,if_false]
   exact Nat.le_trans (Nat.min_le_right _ _) dC
theorem eR{x:Nat}(h:x≤9218868437227405312):Op.negFloat .f64 x % 9223372036854775808=x:=by
 have e:(9223372036854775808:Nat)=2 ^ 63:=dC;have d:(FloatKind.f64.format.exponentBits+FloatKind.f64.format.fractionBits)=63:=dC;unfold Op.negFloat;rw[e,d,Nat.xor_mod_two_pow,Nat.mod_self,Nat.xor_zero,Nat.mod_eq_of_lt (by omega)]
theorem ZI:∀n:Fin 15,(double.read (FW.getD n.val 0)).isNaN=false∧(double.read (FW.getD n.val 0)).isInfinity=false∧(double.read (FW.getD n.val 0)).isZero=false:=by decide +kernel
theorem aC(neg:Bool)(m n:Nat)(h:n<15):∃r,FloatKind.f64.format.div (if neg then Op.negFloat .f64 (FloatKind.f64.nearest (m:Int)) else FloatKind.f64.nearest (m:Int)) (FW.getD n 0)=some r:=by
 have d:=R7 m
 have D:(double.read (if neg then Op.negFloat .f64 (FloatKind.f64.nearest (m:Int)) else FloatKind.f64.nearest (m:Int))).isNaN=false:=by
   apply Zi
   cases neg with
   |true=>rw[if_pos C,eR d];exact d
   |false=>rw[if_neg (by decide),Nat.mod_eq_of_lt (by omega)];exact d
 obtain⟨r,F⟩:=Yn (k:=double.fractionBits+2) D (ZI ⟨n,h⟩);exact⟨double.write r,congrArg (Option.map double.write) F⟩
end Go.SP
namespace Go.SP
variable {n:Nat}
theorem fI(h:n<15):FW[n]?=some (FW.getD n 0):=by
 have d:n<FW.length:=h;rw[List.getD_eq_getElem?_getD,List.getElem?_eq_getElem d];rfl
end Go.SP
namespace Go.Proofs.YtplnpgpagkpnmaaGreatDoor
open Go.SW Go.SP Go.RowKit Go.Proofs.Tryz
theorem gM(w:wO)(c:UInt8)(r:lU)(J:48≤c.toNat∧c.toNat≤57) :
  AO prog 261 #[S (c::r),S [105,110,102,105,110,105,116,121]] w λv w'=>v=iV 0∧AT w w':=by
 have d:=AT.refl w;refine enter func261 C C C<|Ay [] 11 (λ_=>Ab C (kY C C)<|Ax [.sq _] 10 (λ_=>?_));refine D7 (λk σ ds w'=>k=1∧ds=[]∧σ=(E4 0 (S (c::r)) 1 (S [105,110,102,105,110,105,116,121]) 5 (iV (if (((c::r).length:Nat):Int)<(([105,110,102,105,110,105,116,121]:lU).length:Int) then (((c::r).length:Nat):Int) else (([105,110,102,105,110,105,116,121]:lU).length:Int))) 6 (iV 0))∧AT w w') 1 (E4 0 (S (c::r)) 1 (S [105,110,102,105,110,105,116,121]) 5 (iV (if (((c::r).length:Nat):Int)<(([105,110,102,105,110,105,116,121]:lU).length:Int) then (((c::r).length:Nat):Int) else (([105,110,102,105,110,105,116,121]:lU).length:Int))) 6 (iV 0)) lE ⟨C,C,C,d⟩ ?_;rintro _ _ _ wl ⟨rfl,rfl,rfl,d⟩;refine Ay [] 8 (λ_=>sP 15 C (λh=>?_) (λh=>?_));refine Ay [.sq _] 9 (λ_=>Ab C (CF (c:=c) C C JW dC C)<|Ax [.sq _,.bk _,.sq _] 9 (λ_=>sL 23 C (λD=>?_) (λD=>?_)))
 ·
  exfalso;have F:=dT D;omega
 refine Ax [.sq _,.sq _,.bk _,.sq _] 13 (λ_=>Ab C (CF (c:=105) C C JW dC C)<|Ax [.sq _,.bk _,.sq _] 3 (λ_=>sP 33 C (λG=>?_) (λG=>?_)));exact Ay [.bk _,.sq _] 10 (λ_=>Yl<|Es [.bk _,.sq _] 2 (λ_=>Bw (A3 C (Ak C))<|⟨C,d⟩))
 ·
  exfalso;exact absurd (show (c.toNat:Int)=105 by simpa using G) oM
 ·
  exfalso;have F:=dF h;revert F;simp only[List.length_cons,List.length_nil];split <;> omega
theorem TV(w:wO)(c:UInt8)(r:lU)(Q:48≤c.toNat∧c.toNat≤57) :
  AO prog 247 #[S (c::r)] w λv w'=>v=.tuple #[.float .f64 0,iV 0,.bool false]∧AT w w':=by
 have O:=AT.refl w;refine enter func247 C C C<|Ay [] 15 (λ_=>sP 10 C (λh=>?_) (λh=>?_))
 ·
  exfalso;have d:=(beq_iff_eq).1 h;simp only[List.length_cons] at d;omega
 refine Ay [.sq _] 17 (λ_=>Ab C (CF (c:=c) C C JW dC C)<|Ax [.sq _,.sq _] 18 (λ_=>sP 13 C (λD=>?_) (λD=>?_)))
 ·
  exfalso;have d:=(beq_iff_eq).1 D;omega
 refine Ay [.sq _,.sq _,.sq _,.bk _,.sq _,.bk _,.sq _,.bk _,.sq _,.bk _,.sq _] 6 (λ_=>sP 13 C (λF=>?_) (λF=>?_))
 ·
  exfalso;have d:=(beq_iff_eq).1 F;omega
 refine Ay [.sq _,.sq _,.bk _,.sq _,.bk _,.sq _,.bk _,.sq _,.bk _,.sq _] 11 (λ_=>sP 16 C (λG=>?_) (λG=>?_))
 ·
  exfalso;have d:=(beq_iff_eq).1 G;omega
 refine Ay [.sq _,.sq _,.sq _,.bk _,.sq _,.bk _,.sq _,.bk _,.sq _,.bk _,.sq _] 6 (λ_=>sP 16 C (λJ=>?_) (λJ=>?_))
 ·
  exfalso;have d:=(beq_iff_eq).1 J;omega
 refine Ay [.sq _,.sq _,.bk _,.sq _,.bk _,.sq _,.bk _,.sq _,.bk _,.sq _] 10 (λ_=>sP 19 C (λK=>?_) (λK=>?_))
 ·
  exfalso;have d:=(beq_iff_eq).1 K;omega
 refine Ay [.sq _,.sq _,.bk _,.sq _,.bk _,.sq _,.bk _,.sq _,.bk _,.sq _] 6 (λ_=>sP 19 C (λL=>?_) (λL=>?_))
 ·
  exfalso;have d:=(beq_iff_eq).1 L;omega
 exact Ay [.sq _,.bk _,.sq _,.bk _,.sq _,.bk _,.sq _,.bk _,.sq _] 20 (λ_=>Bw (Ez C (Ak C) (Ak C) (Ak C))<|⟨C,O⟩)
theorem TU(w:wO)(c:UInt8)(r:lU)(F:48≤c.toNat∧c.toNat≤57) :
  AO prog 247 #[S (45::c::r)] w λv w'=>v=.tuple #[.float .f64 0,iV 0,.bool false]∧AT w w':=by
 have h:=AT.refl w;refine enter func247 C C C<|Ay [] 15 (λ_=>sP 10 C (λD=>?_) (λD=>?_))
 ·
  exfalso;have G:=(beq_iff_eq).1 D;simp only[List.length_cons] at G;omega
 refine Ay [.sq _] 17 (λ_=>Ab C (CF (c:=45) C C JW dC C)<|Ax [.sq _,.sq _] 34 (λ_=>Ab C (CF (c:=45) C C JW dC C)<|Ax [.sq _,.sq _,.bk _,.sq _,.bk _,.sq _,.bk _,.sq _] 15 (λ_=>Ab C (M3 C C JW)<|Ax [.bk _,.sq _,.bk _,.sq _,.bk _,.sq _] 8 (λ_=>Az C (Ar yN C C) (gM _ c r F) ?_))));rintro _ J ⟨rfl,d⟩;have h:=h.trans d;have HR:=d.size;exact Ax [.sq _,.sq _,.bk _,.sq _,.bk _,.sq _] 43 (λ_=>Bw (Ez C (Ak C) (Ak C) (Ak C))<|⟨C,h⟩)
theorem U3(w:wO)(c:UInt8)(d:46≤c.toNat∧c.toNat≤57) :
  AO prog 236 #[.int .u8 c.toNat] w λv w'=>v=.int .u8 c.toNat∧AT w w':=by
 have h:=AT.refl w;exact enter func236 C C C<|Ay [] 8 (λ_=>Ab C (eZ (c.toNat:Int) C C (low46 ⟨c.toNat,oM⟩ d.1))<|Ax [.sq _] 4 (λ_=>Bw (A3 C (Ak C))<|⟨C,h⟩))
theorem NL(w:wO)(s:lU)(a b:lU)(ha:GM a)(hb:GM b)(J:a≠[])(hbne:b≠[])(hab:a.length+b.length≤15)(neg:Bool)(hs:s=(bif neg then [45] else [])++(a++46::b)) :
  AO prog 248 #[S s] w λv w'=>v=.tuple #[.int .u64 (CH 0 (a++b):Int),iV (if CH 0 (a++b)=0 then 0 else -(b.length:Int)),.bool neg,.bool false,.bool false,iV (s.length:Int),.bool true]∧AT w w':=by
 have hal:1≤a.length:=List.length_pos_iff.2 J;have hbl:1≤b.length:=List.length_pos_iff.2 hbne
 obtain⟨a0,ar,W⟩:∃c r,a=c::r:=by
  cases a with
  |nil=>exact absurd C J
  |cons c r=>exact⟨c,r,C⟩
 obtain⟨o,ho,ho1⟩:∃o,(bif neg then 1 else 0:Nat)=o∧o≤1:=⟨_,C,by cases neg <;> decide⟩;have Y:s.drop o=a++46::b:=by subst ho;rw[hs];cases neg <;> rfl
 have hlo:s.length=o+(a.length+(b.length+1)):=by subst ho;rw[hs];cases neg <;> simp <;> omega
 obtain⟨c0,Z,hcn⟩:∃c:UInt8,s[0]?=some c∧(c.toNat=45∧neg=true∨(48≤c.toNat∧c.toNat≤57)∧neg=false):=by
  cases neg with
  |true=>exact⟨45,by rw[hs];rfl,.inl ⟨C,C⟩⟩
  |false=>exact⟨a0,by rw[hs,W];rfl,.inr ⟨ha a0 (W▸List.mem_cons_self),C⟩⟩
 have ha0:s[o]?=some a0:=by rw[← Nat.add_zero o,← List.getElem?_drop,Y,W];rfl
 obtain⟨a1,ha1,ha1d⟩:=XJ (s:=s) (b:=b) o ha J Y;have F:=AT.refl w;refine enter func248 C C C<|Ay [] 11 (λ_=>XI<|Ay [] 14 (λ_=>sP 24 C (λQ=>?_) (λQ=>?_)))
 ·
  exfalso;have d:=dT Q;omega
 refine Ay [.sq _] 3 (λ_=>RC (E9 0 (S s) 2 (.int .u64 0) 3 (iV 0) 4 (.bool neg) 5 (.bool false) 6 (.bool false) 7 (iV (o:Int)) 8 (.bool false) 9 (.bool false)) (λw'=>AT w w') ?_ ?_);refine Ay [] 4 (λ_=>Ab C (CF (c:=c0) C C JW dC Z)<|Ax [.sq _] 9 (λ_=>sP 28 C (λh2=>?_) (λh2=>?_)))
 ·
  exfalso;have d:=(beq_iff_eq).1 h2;omega
 refine Ay [.bk _] 7 (λ_=>sP 32 C (λh3=>?_) (λh3=>?_));refine Ay [.bk _] 2 (λ_=>?_);obtain rfl:neg=true:=by have d:(c0.toNat:Int)=45:=(beq_iff_eq).1 h3;rcases hcn with h|h;exact h.2;omega
 subst ho;exact Ay [.sq _,.bk _] 2 (λ_=>Ab C (Lx (1) C C dC)<|Ax [.sq _,.bk _] 7 (λ_=>Qj lE F));obtain rfl:neg=false:=by have d:¬(c0.toNat:Int)=45:=(by simpa using h3);rcases hcn with h|h;omega;exact h.2
 subst ho;exact Ay [.bk _] 3 (λ_=>Qj lE F);rintro wl F;refine Ay [] 15 (λ_=>RC (E11 0 (S s) 2 (.int .u64 0) 3 (iV 0) 4 (.bool neg) 5 (.bool false) 6 (.bool false) 7 (iV (o:Int)) 8 (.bool false) 9 (.bool false) 10 (.int .u64 10) 11 (iV 19)) (λw'=>AT w w') ?_ ?_);refine Ay [] 8 (aI ⟨oM,oM⟩<|λ_=>sL 41 C (λh4=>?_) (λh4=>?_));refine Ax [.sq _] 2 (λ_=>B6 C C C<|Ab C (CF (c:=a0) C C JW oM (by rw[Int.toNat_natCast];exact ha0))<|Ax [.sq _] 3 (λ_=>sL 47 C (λh5=>?_) (λh5=>?_)));refine Ax [.sq _] 3 (aI ⟨oM,oM⟩<|λ_=>B6 C C C<|Ab C (CF (c:=a1) C C JW oM ha1)<|B6 C C C<|Az C (Ar vM C C) (U3 _ a1 ha1d) ?_);rintro _ w1 ⟨rfl,hE1⟩;have F:=F.trans hE1;have HR:=hE1.size;refine Ax [.sq _] 4 (λ_=>sP 54 C (λh6=>?_) (λh6=>?_))
 ·
  exfalso;have d:=(beq_iff_eq).1 h6;omega
 exact Ay [] 2 (λ_=>Qj lE F);exact Ax [.sq _] 11 (λ_=>Qj lE F)
 ·
  exfalso;have d:=dF h4;omega
 rintro wl F;refine Ay [] 26 (λ_=>Yk<|Es [.sq _] 3 (λ_=>?_));refine D7 (λk σ ds w'=>∃(j m nd:Nat)(K:Int)(dot sd:Bool)(rest:lU),k=rest.length∧ds=[]∧σ=(yZ 0 (S s) 2 (.int .u64 (m:Int)) 3 (iV 0) 4 (.bool neg) 5 (.bool false) 6 (.bool false) 7 (iV (j:Int)) 8 (.bool false) 9 (.bool false) 10 (.int .u64 10) 11 (iV 19) 13 (.bool dot) 14 (.bool sd) 15 (iV (nd:Int)) 16 (iV (nd:Int)) 17 (iV K))∧s.drop j=rest∧j+rest.length=s.length∧FV b dot rest∧CH 0 (a++b)=CH m (Jy rest)∧(dot=true→K=(nd:Int)-((b.length:Int)-rest.length))∧nd≤j ∧ -(j:Int)≤K∧K≤j∧(nd=0↔m=0)∧(sd=true∨rest=a++46::b)∧AT w w') (a++46::b).length (yZ 0 (S s) 2 (.int .u64 ((0:Nat):Int)) 3 (iV 0) 4 (.bool neg) 5 (.bool false) 6 (.bool false) 7 (iV (o:Int)) 8 (.bool false) 9 (.bool false) 10 (.int .u64 10) 11 (iV 19) 13 (.bool false) 14 (.bool false) 15 (iV ((0:Nat):Int)) 16 (iV ((0:Nat):Int)) 17 (iV 0)) lE ⟨o,0,0,0,false,false,a++46::b,C,C,C,Y,by rw[hlo];simp <;> omega,⟨a,C,ha⟩,by rw[YO ha hb],(λh=>by cases h),oM,oM,oM,by simp,.inr C,F⟩ ?_;rintro _ _ _ wl ⟨j,m,nd,K,dot,sd,rest,rfl,rfl,rfl,L,G,hfv,D,U,hnd,hd1,hd2,O,hsd,F⟩;have hml:m<1000000000000000:=by have Q:=Qn (Jy rest) m;have h2:=Pf (l:=a++b) (λx hx=>(List.mem_append.1 hx).elim (ha x) (hb x)) (by rw[List.length_append];exact hab);omega
 have hsl:s.length≤17:=oM;refine Ay [] 9 (λ_=>sP 60 C (λh7=>?_) (λh7=>?_));refine Ay [.sq _] 7 (λ_=>?_);rcases rest with _|⟨c,r⟩
 · exfalso;have d:=dT h7;simp at G;omega
 have hcj:s[j]?=some c:=QX L;have hcl:=hfv.cons;have hc46:46≤c.toNat∧c.toNat≤57:=hcl.elim (λh=>by rw[h.1];decide) (λh=>by omega);refine Ay [.sq _,.sq _,.bk _,.sq _] 3 (λ_=>Ab C (CF (c:=c) C C JW oM (by rw[Int.toNat_natCast];exact hcj))<|Ax [.sq _,.sq _,.bk _,.sq _] 8 (λ_=>Ab C (Rq un4 C C)<|Ax [.sq _,.bk _,.sq _,.bk _,.sq _] 3 (λ_=>sP 66 C (λh8=>?_) (λh8=>?_))))
 ·
  exfalso;have d:=(beq_iff_eq).1 h8;omega
 refine Ay [.bk _,.sq _,.bk _,.sq _] 5 (λ_=>Ab C (Rq un4 C C)<|Ax [.sq _,.bk _,.sq _,.bk _,.sq _] 3 (λ_=>sP 70 C (λd=>?_) (λd=>?_)));refine Ay [.bk _,.sq _,.bk _,.sq _] 3 (λ_=>?_);have hc6:(c.toNat:Int)=46:=by simpa using d
 obtain⟨hc6,hdf,hrb⟩:c=46∧dot=false∧r=b:=hcl.elim id (λh=>by omega);have hrb:=hrb.symm;subst hdf hrb hc6;have hsd2:sd=true:=hsd.resolve_right (λh=>by cases a with|nil=>exact J C|cons x a=>simp at h;have:=ha x (.head _);rw[← h.1] at this;revert this;decide);refine Ay [.sq _,.sq _,.bk _,.sq _,.bk _,.sq _] 28 (aI ⟨oM,oM⟩<|λ_=>Hh b.length (yZ 0 (S s) 2 (.int .u64 (m:Int)) 3 (iV 0) 4 (.bool neg) 5 (.bool false) 6 (.bool false) 7 (iV ((j+1:Nat):Int)) 8 (.bool false) 9 (.bool false) 10 (.int .u64 10) 11 (iV 19) 13 (.bool true) 14 (.bool sd) 15 (iV (nd:Int)) 16 (iV (nd:Int)) 17 (iV (nd:Int))) (by simp) lE ⟨j+1,m,nd,(nd:Int),true,sd,b,C,C,C,JX L,by simp only[List.length_cons] at G;omega,⟨hb,Nat.le_refl _⟩,by rw[D,Pw],(λ_=>by omega),oM,oM,oM,O,.inl hsd2,F⟩);refine Ay [.bk _,.sq _,.bk _,.sq _] 2 (λ_=>?_);have hn6:(c.toNat:Int)≠46:=by simpa using d
 obtain⟨hcd,hfr⟩:(48≤c.toNat∧c.toNat≤57)∧FV b dot r:=hcl.elim (λh=>absurd (by rw[h.1];rfl) hn6) id;refine Ay [.sq _,.bk _,.sq _,.bk _,.sq _] 4 (λ_=>sL 79 C (λh10=>?_) (λh10=>?_));refine Ax [.sq _,.bk _,.sq _,.bk _,.sq _] 3 (λ_=>Ab C (Rq un4 C C)<|Ax [.sq _,.bk _,.sq _,.bk _,.sq _] 3 (λ_=>sP 76 C (λh11=>?_) (λh11=>?_)));refine Ay [.bk _,.sq _,.bk _,.sq _] 12 (λ_=>sL 86 C (λh12=>?_) (λh12=>?_));refine Ax [.sq _,.sq _,.bk _,.sq _,.bk _,.sq _] 5 (λ_=>sP 89 C (λh13=>?_) (λh13=>?_));refine Ay [.sq _,.bk _,.sq _,.bk _,.sq _] 19 (aI ⟨oM,oM⟩<|aI ⟨oM,oM⟩<|λ_=>?_);have hm0:m=0:=O.1 (by have:=h13;simp at this;omega);have Z:c.toNat=48:=by have:=h12;simp at this;omega
 refine Hh r.length (yZ 0 (S s) 2 (.int .u64 (m:Int)) 3 (iV 0) 4 (.bool neg) 5 (.bool false) 6 (.bool false) 7 (iV ((j+1:Nat):Int)) 8 (.bool false) 9 (.bool false) 10 (.int .u64 10) 11 (iV 19) 13 (.bool dot) 14 (.bool true) 15 (iV (nd:Int)) 16 (iV (nd:Int)) 17 (iV (K-1))) (by simp) lE ⟨j+1,m,nd,K-1,dot,true,r,C,C,C,JX L,by simp only[List.length_cons] at G;omega,hfr,by rw[D,Ih hcd,OH,Z,hm0],(λh=>by have Q:=U h;simp only[List.length_cons] at Q;omega),oM,oM,oM,O,.inl C,F⟩;refine Ay [.sq _,.bk _,.sq _,.bk _,.sq _] 4 (λ_=>?_)
 have hnz:¬(m*10+(c.toNat-48)=0):=by
  intro d;have hm9:m=0:=oM;have hn9:=O.2 hm9;have h8:=h13;simp at h8;omega
 refine Ay [.sq _,.bk _,.sq _,.bk _,.sq _] 14 (aI ⟨oM,oM⟩<|λ_=>sP 96 C (λh14=>?_) (λh14=>?_));refine Ay [.sq _,.bk _,.sq _,.bk _,.sq _] 5 (λ_=>Ab C (Nb ((m:Int)*10) C C (Hp ⟨oM,oM⟩))<|Ax [.sq _,.sq _,.bk _,.sq _,.bk _,.sq _] 7 (λ_=>Ab C (DO ((c.toNat:Int)-48) C C (PZ ⟨oM,oM⟩))<|Ab C (Cg (m:=(c.toNat:Int)-48) C VY (Hp ⟨oM,oM⟩))<|Ab C (Lx ((m:Int)*10+((c.toNat:Int)-48)) C C (Hp ⟨oM,oM⟩))<|Ax [.sq _,.sq _,.bk _,.sq _,.bk _,.sq _] 19 (aI ⟨oM,oM⟩<|aI ⟨oM,oM⟩<|λ_=>?_)));have hme:(m:Int)*10+((c.toNat:Int)-48)=((m*10+(c.toNat-48):Nat):Int):=oM;refine Hh r.length (yZ 0 (S s) 2 (.int .u64 ((m*10+(c.toNat-48):Nat):Int)) 3 (iV 0) 4 (.bool neg) 5 (.bool false) 6 (.bool false) 7 (iV ((j+1:Nat):Int)) 8 (.bool false) 9 (.bool false) 10 (.int .u64 10) 11 (iV 19) 13 (.bool dot) 14 (.bool true) 15 (iV ((nd+1:Nat):Int)) 16 (iV ((nd+1:Nat):Int)) 17 (iV K)) (by simp) (zI C (hme▸rfl) C C C C C C C C C C C C C C) ⟨j+1,m*10+(c.toNat-48),nd+1,K,dot,true,r,C,C,C,JX L,by simp only[List.length_cons] at G;omega,hfr,by rw[D,Ih hcd,OH],(λh=>by have Q:=U h;simp only[List.length_cons] at Q;omega),oM,oM,oM,⟨λh=>by omega,λh=>?_⟩,.inl C,F⟩;exfalso;have hz:=hnz;omega
 ·
  exfalso;have d:=dF h14;omega
 refine Ax [.sq _,.sq _,.bk _,.sq _,.bk _,.sq _] 9 (λ_=>?_)
 have hnz:¬(m*10+(c.toNat-48)=0):=by
  intro d;have hm9:m=0:=oM;have hn9:=O.2 hm9;have h8:=h12;simp at h8;omega
 refine Ay [.sq _,.bk _,.sq _,.bk _,.sq _] 14 (aI ⟨oM,oM⟩<|λ_=>sP 96 C (λh15=>?_) (λh15=>?_));refine Ay [.sq _,.bk _,.sq _,.bk _,.sq _] 5 (λ_=>Ab C (Nb ((m:Int)*10) C C (Hp ⟨oM,oM⟩))<|Ax [.sq _,.sq _,.bk _,.sq _,.bk _,.sq _] 7 (λ_=>Ab C (DO ((c.toNat:Int)-48) C C (PZ ⟨oM,oM⟩))<|Ab C (Cg (m:=(c.toNat:Int)-48) C VY (Hp ⟨oM,oM⟩))<|Ab C (Lx ((m:Int)*10+((c.toNat:Int)-48)) C C (Hp ⟨oM,oM⟩))<|Ax [.sq _,.sq _,.bk _,.sq _,.bk _,.sq _] 19 (aI ⟨oM,oM⟩<|aI ⟨oM,oM⟩<|λ_=>?_)));have hme:(m:Int)*10+((c.toNat:Int)-48)=((m*10+(c.toNat-48):Nat):Int):=oM;refine Hh r.length (yZ 0 (S s) 2 (.int .u64 ((m*10+(c.toNat-48):Nat):Int)) 3 (iV 0) 4 (.bool neg) 5 (.bool false) 6 (.bool false) 7 (iV ((j+1:Nat):Int)) 8 (.bool false) 9 (.bool false) 10 (.int .u64 10) 11 (iV 19) 13 (.bool dot) 14 (.bool true) 15 (iV ((nd+1:Nat):Int)) 16 (iV ((nd+1:Nat):Int)) 17 (iV K)) (by simp) (zI C (hme▸rfl) C C C C C C C C C C C C C C) ⟨j+1,m*10+(c.toNat-48),nd+1,K,dot,true,r,C,C,C,JX L,by simp only[List.length_cons] at G;omega,hfr,by rw[D,Ih hcd,OH],(λh=>by have Q:=U h;simp only[List.length_cons] at Q;omega),oM,oM,oM,⟨λh=>by omega,λh=>?_⟩,.inl C,F⟩;exfalso;have hz:=hnz;omega
 ·
  exfalso;have d:=dF h15;omega
 ·
  exfalso;have d:=dF h11;omega
 ·
  exfalso;have d:=dF h10;omega
 refine Ay [.sq _] 3 (λ_=>O9<|Es [.bk _,.sq _] 4 (λ_=>?_));have hrn:rest=[]:=by cases rest with|nil=>rfl|cons x r=>exfalso;have d:=dF h7;simp only[List.length_cons] at G;omega
 subst hrn;have hdt:=hfv.nil;subst hdt;have hst:sd=true:=hsd.resolve_right (λh=>by cases a <;> cases h);subst hst;have hdp2:=U C;simp only[List.length_nil] at hdp2 G;have hM:CH 0 (a++b)=m:=by rw[D];exact gR m
 refine Ay [.sq _,.sq _] 36 (λ_=>sL 154 C (λHT=>?_) (λHT=>?_))
 ·
  exfalso;have d:=dT HT;omega
 refine Ax [.sq _,.sq _] 26 (λ_=>sP 241 C (λJH=>?_) (λJH=>?_));exact Ay [.sq _] 30 (aI ⟨oM,oM⟩<|λ_=>pI<|Bw (rR C (Ak C) (Ak C) (Ak C) (Ak C) (Ak C) (Ak C) (Ak C))<|⟨by rw[if_neg (by rw[hM];have d:=JH;simp at d;omega),hM,show K-(nd:Int) = -(b.length:Int) by omega,show ((j:Nat):Int)=(s.length:Int) by omega],F⟩);exact Ay [.sq _] 25 (λ_=>pI<|Bw (rR C (Ak C) (Ak C) (Ak C) (Ak C) (Ak C) (Ak C) (Ak C))<|⟨by rw[if_pos (by rw[hM];have d:=JH;simp at d;omega),hM,show ((j:Nat):Int)=(s.length:Int) by omega],F⟩)
theorem tY:Extern.findNext Tryz.f257=none:=kR
theorem uE:Extern.find Tryz.f257=some Extern.MathFloatBits.float64frombits:=kR
theorem YQ:cvF prog 22 239=some .f64:=kR
theorem Ug(w:wO)(L:Gl w)(m n:Nat)(neg:Bool)(hm:m<1000000000000000)(Z:1≤n∧n≤14) :
  AO prog 258 #[.int .u64 (m:Int),iV (-(n:Int)),.bool neg] w λv w'=>v=.tuple #[.float .f64 ((FloatKind.f64.format.div (if neg then Op.negFloat .f64 (FloatKind.f64.nearest (m:Int)) else FloatKind.f64.nearest (m:Int)) (FW.getD n 0)).getD 0),.bool true]∧AT w w':=by
 obtain⟨pb,po,pn,pc,D,Y,F⟩:=L.pow10;have d:=AT.refl w;refine enter func258 C C C<|Ay [] 11 (λ_=>Ab C (L3 C ti273 (L.ext d).finfo)<|Ab C (WM 0 C C dC (by rw[show min (52:Int).toNat IntKind.u64.bits=52 by decide,SB,Nat.div_eq_of_lt (by omega)];rfl))<|Ax [.sq _,.sq _] 9 (λ_=>Ab C (tA C YQ)<|Ax [.sq _] 9 (λ_=>?_)))
 ·
  refine sP 15 C (λG=>?_) (λG=>?_);refine Ay [.sq _] 3 (λ_=>Ab C (kH C)<|Ax [.sq _] 12 (λ_=>?_))
  rotate_left
  refine Ay [.sq _] 12 (λ_=>?_)
  all_goals
   refine sP 18 C (λO=>?_) (λO=>?_)
   ·
    exfalso;have J:=(beq_iff_eq).1 O;omega
   refine Ay [.bk _,.sq _] 6 (λ_=>sL 25 C (λQ=>?_) (λQ=>?_))
   ·
    exfalso;have J:=dT Q;omega
   refine Ax [.sq _,.bk _,.sq _] 12 (λ_=>sL 53 C (λU=>?_) (λU=>?_));refine Ax [.sq _,.bk _,.sq _] 6 (λ_=>sP 50 C (λW=>?_) (λW=>?_));refine Ay [.bk _,.sq _] 2 (λ_=>?_);obtain⟨r,h⟩:=aC neg m n oM;rw[G] at h;simp only[Bool.false_eq_true,if_true,if_false] at h;have K:=fI (show n<15 by omega);refine Ay [.sq _,.bk _,.sq _] 2 (λ_=>Ab C (L3 C ti395 (FI D d))<|Ab C (As C)<|Ab C (Nt (n:Int) C (by rw[Hv ⟨by omega,by omega⟩];omega))<|Ab C (Mn (i:=n) C C zS oM)<|Ab C (L3 C ti239 (by rw[Nat.mul_one];exact FI (F n _ K) d))<|Ab C (lX C C h)<|Ax [.sq _,.bk _,.sq _] 7 (λ_=>Bw (B5 C (Ak C) (Ak C))<|⟨?_,d⟩));rw[G];simp only[Bool.false_eq_true,if_true,if_false];rw[h];rfl
   ·
    exfalso;have J:=dF W;omega
   ·
    exfalso;have J:=dF U;omega

theorem Wc(w:wO)(neg:Bool) :
  AO prog 256 #[.bool neg] w λv w'=>v=.int .u64 (if neg then 1 else 0)∧AT w w':=by
 have h:=AT.refl w;refine enter func256 C C C<|Ay [] 11 (λ_=>sP 3 C (λd=>?_) (λd=>?_));exact Ay [.sq _] 8 (λ_=>Bw (A3 C (Ak C))<|⟨by rw[d];rfl,h⟩);exact Ay [.sq _] 9 (λ_=>Bw (A3 C (Ak C))<|⟨by rw[d];rfl,h⟩)
theorem S4(w:wO)(s a b:lU)(neg:Bool)(F:GM a)(d:a≠[])(h:s=if neg then 45::(a++46::b) else a++46::b) :
  AO prog 247 #[S s] w λv w'=>v=.tuple #[.float .f64 0,iV 0,.bool false]∧AT w w':=by
 cases a with
 |nil=>exact absurd C d
 |cons c r =>
  have D:=F c (.head _)
  cases neg with
  |true=>rw[h];exact TU w c (r++46::b) D
  |false=>rw[h];exact TV w c (r++46::b) D
theorem Pm(w:wO)(s a b:lU)(neg:Bool)(F:GM a)(G:GM b)(d:a≠[])(h:b≠[])(D:a.length+b.length≤15)(J:s=if neg then 45::(a++46::b) else a++46::b) :
  AO prog 248 #[S s] w λv w'=>v=.tuple #[.int .u64 (CH 0 (a++b):Int),iV (if CH 0 (a++b)=0 then 0 else -(b.length:Int)),.bool neg,.bool false,.bool false,iV (s.length:Int),.bool true]∧AT w w':=by
 cases neg with
 |true=>exact NL w s a b F G d h D true J
 |false=>exact NL w s a b F G d h D false J
theorem TA(w:wO)(Z:Gl w)(s:lU)(a b:lU)(U:GM a)(hb:GM b)(h:a≠[])(F:b≠[])(J:a.length+b.length≤15)(neg:Bool)(hs:s=if neg then 45::(a++46::b) else a++46::b) :
  AO prog 241 #[S s] w λv w'=>v=.tuple #[.float .f64 (M5 neg a b),iV (s.length:Int),.nilIface]∧AT w w':=by
 have hal:1≤a.length:=List.length_pos_iff.2 h;have hbl:1≤b.length:=List.length_pos_iff.2 F;have W:=Pf (l:=a++b) (λx hx=>(List.mem_append.1 hx).elim (U x) (hb x)) (by rw[List.length_append];exact J);have d:=AT.refl w;refine enter func241 C C C<|Ay [] 11 (λ_=>Az C (Ar xM C C) (S4 _ s a b neg U h hs) ?_);rintro _ w1 ⟨rfl,K⟩;have d:=d.trans K;have HR:=K.size;refine Ax [.sq _,.sq _] 20 (λ_=>Az C (Ar uJ C C) (Pm _ s a b neg U hb h F J hs) ?_);rintro _ w2 ⟨rfl,L⟩;have d:=d.trans L;have sz2:=L.size;refine Ax [.sq _] 39 (λ_=>Ab C (L3 C wT (Z.ext d).optimize)<|Ax [.sq _,.sq _] 6 (λ_=>Az C (Ar vW C C) (Wc _ neg) ?_));rintro _ w3 ⟨rfl,O⟩;have d:=d.trans O;have sz3:=O.size;refine Ab C (JJ (if neg then 9223372036854775808 else 0) C C dC (by cases neg <;> decide))<|Ax [.sq _,.sq _] 10 (λ_=>sP 69 C (λY=>?_) (λY=>?_));refine Ay [.sq _,.sq _] 4 (λ_=>Ab C (eZ (if neg then 9223372036854775808 else 0) C C (by cases neg <;> decide))<|Ab C (gB func257 C C tY uE C C C)<|Ax [.sq _,.sq _,.sq _] 9 (λ_=>Bw (Ez C (Ak C) (Ak C) (Ak C)) ?_));have D:CH 0 (a++b)=0:=by have G:=(beq_iff_eq).1 Y;omega
 exact⟨by cases neg <;> simp[M5,D],d⟩;refine Ay [.sq _,.sq _] 10 (λ_=>sP 75 C (λh2=>?_) (λh2=>?_))
 ·
  exfalso;have G:=dT h2;revert G;split <;> omega
 refine Ay [.sq _,.sq _] 10 (λ_=>sP 82 C (λh3=>?_) (λh3=>?_))
 ·
  exfalso;have G:=dT h3;revert G;split <;> omega
 refine Ay [.sq _,.sq _] 16 (λ_=>?_);have D:¬CH 0 (a++b)=0:=by have G:=Y;simp at G;omega
 refine Az C (Ar vJ C C) ((show (if CH 0 (a++b)=0 then (0:Int) else -(b.length:Int)) = -(b.length:Int) from if_neg D)▸Ug _ (Z.ext d) (CH 0 (a++b)) b.length neg W oM) ?_;rintro _ w4 ⟨rfl,Q⟩;have d:=d.trans Q;have sz4:=Q.size;exact Ax [.sq _,.sq _,.sq _] 25 (λ_=>Bw (Ez C (Ak C) (Ak C) (Ak C))<|⟨by rw[M5,if_neg D],d⟩)
theorem IK(w:wO)(J:Gl w)(s:lU)(a b:lU)(K:GM a)(L:GM b)(d:a≠[])(h:b≠[])(G:a.length+b.length≤15)(neg:Bool)(O:s=if neg then 45::(a++46::b) else a++46::b) :
  AO prog 226 #[S s,iV 64] w λv w'=>v=.tuple #[.float .f64 (M5 neg a b),iV (s.length:Int),.nilIface]∧AT w w':=by
 have F:=AT.refl w;refine enter func226 C C C<|Ay [] 20 (λ_=>Az C (Ar uU C C) (TA _ (J.ext F) s a b K L d h G neg O) ?_);rintro _ Q ⟨rfl,D⟩;have F:=F.trans D;have HR:=D.size;exact Ax [.sq _] 9 (λ_=>Bw (Ez C (Ak C) (Ak C) (Ak C))<|⟨C,F⟩)
theorem LW(w:wO)(K:Gl w)(s:lU)(a b:lU)(L:GM a)(O:GM b)(d:a≠[])(h:b≠[])(G:a.length+b.length≤15)(neg:Bool)(Q:s=if neg then 45::(a++46::b) else a++46::b) :
  AO prog 202 #[S s,iV 64] w λv w'=>v=.tuple #[.float .f64 (M5 neg a b),.nilIface]∧AT w w':=by
 have F:=AT.refl w;refine enter func202 C C C<|Ay [] 10 (λ_=>Az C (Ar wZ C C) (IK _ (K.ext F) s a b L O d h G neg Q) ?_);rintro _ U ⟨rfl,D⟩;have F:=F.trans D;have HR:=D.size;refine Ax [.sq _] 18 (λ_=>sP 19 C (λJ=>?_) (λJ=>?_))
 ·
  exfalso;simp at J
 exact Ay [.sq _] 12 (λ_=>Bw (B5 C (Ak C) (Ak C))<|⟨C,F⟩)
theorem MH(w:wO)(J:Gl w)(s:lU)(a b:lU)(K:GM a)(L:GM b)(d:a≠[])(h:b≠[])(G:a.length+b.length≤15)(neg:Bool)(O:s=if neg then 45::(a++46::b) else a++46::b) :
  AO prog 184 #[S s,iV 64] w λv w'=>v=.tuple #[.float .f64 (M5 neg a b),.nilIface]∧AT w w':=by
 have F:=AT.refl w;refine enter func184 C C C<|Ay [] 10 (λ_=>Az C (Ar tD C C) (LW _ (J.ext F) s a b K L d h G neg O) ?_);rintro _ Q ⟨rfl,D⟩;have F:=F.trans D;have HR:=D.size;exact Ax [.sq _] 11 (λ_=>Ab C (HL FR C)<|Ax [.sq _,.sq _] 13 (λ_=>Bw (B5 C (Ak C) (Ak C))<|⟨C,F⟩))
theorem pfs:PFS:=λw s a b D hlen F=>by
 obtain⟨G,J,K,L,O,d⟩:=Ra F;refine MH w D s a b G J K L O (Pl s) ?_;rcases KI s with h|⟨r,rfl⟩
 · rw[h,if_neg (by decide),← d,Ii h]
 ·
  rw[Ik] at d;rw[d];rfl
end Go.Proofs.YtplnpgpagkpnmaaGreatDoor
namespace Go.SP
theorem Fo.len_snoc':∀(a:Fo)(t:AB)(k:Fo),(a.snoc t k).len=a.len+1
 |.nil,_,_=>rfl
 |.cons _ _ r,t,k=>by simp only[Fo.snoc,Fo.len,Fo.len_snoc' r t k]
theorem Fo.ok_snoc:∀(a:Fo)(t:AB)(k:Fo),a.ok→t.ok→k.ok→k.len≤100000→(a.snoc t k).ok
 |.nil,_,_,_,d,D,F=>⟨d,D,F,tQ⟩
 |.cons _ _ r,t,k,h,d,D,F=>⟨h.1,h.2.1,h.2.2.1,Fo.ok_snoc r t k h.2.2.2 d D F⟩
theorem Fo.deep_snoc:∀(a:Fo)(n:Nat)(t:AB)(k:Fo),a.deep (n+1)=true→k.deep n=true→(a.snoc t k).deep (n+1)=true
 |.nil,n,t,k,_,h=>by simp[Fo.snoc,Fo.deep,h]
 |.cons u l r,n,t,k,d,D=>by
   simp only[Fo.deep,Bool.and_eq_true] at d;simp only[Fo.snoc,Fo.deep,Bool.and_eq_true];exact⟨d.1,Fo.deep_snoc r n t k d.2 D⟩
def StI:Nat→List (AB×Fo)→Prop
 |_,[]=>True
 |i,(o,p)::s=>o.ok∧p.ok∧p.len≤i∧p.deep (201-s.length)=true∧StI i s
theorem StI.up:∀{i:Nat}{st:List (AB×Fo)},StI i st→StI (i+1) st
 |_,[],_=>trivial
 |_,_::_,⟨a,b,c,d,e⟩=>⟨a,b,Nat.le_succ_of_le c,d,e.up⟩
theorem GU:∀(l:List AB)(i:Nat)(st:List (AB×Fo))(cur fo:Fo),(∀t∈l,t.ok)→i+l.length≤100000→st.length≤200→StI i st→cur.ok→cur.len≤i→cur.deep (201-st.length)=true →
   Bt l st cur=.ok fo→fo.ok∧fo.len≤i+l.length∧fo.deep 201=true
 | [],i,[],cur,fo,_,_,_,_,F,O,d,h=>by
   simp only[Bt] at h
   cases h
   exact⟨F,by simpa using O,by simpa using d⟩
 | [],i,(o,p)::s,cur,fo,_,_,_,_,_,_,_,h=>by
   unfold Bt at h
   split at h <;> cases h
 |k::l,i,st,cur,fo,Q,Y,U,K,F,O,d,h=>by
   have W:k.ok:=Q k (.head _);have D:∀t∈l,t.ok:=λt Z=>Q t (.tail _ Z);simp only[List.length_cons] at Y;unfold Bt at h
   split at h
   · split at h
     · cases h
     · rename_i G
       have hne:st.length≠200:=by simpa using G
       have:=GU l (i+1) ((k,cur)::st) .nil fo D oM (by simp only[List.length_cons];omega) ⟨W,F,oM,d,K.up⟩ tQ (by simp[Fo.len]) (by simp[Fo.deep]) h;refine⟨this.1,?_,this.2.2⟩;have:=this.2.1;simp only[List.length_cons];omega
   · split at h
     · cases st with
       |nil=>cases h
       |cons op s =>
         obtain⟨o,p⟩:=op;simp only at h;obtain⟨ho,hp,hpl,J,L⟩:=K;simp only[List.length_cons] at U d;have e:201-s.length=(201-(s.length+1))+1:=oM;have:=GU l (i+1) s (p.snoc o cur) fo D oM oM L.up (Fo.ok_snoc p o cur hp ho F oM) (by rw[Fo.len_snoc'];omega) (by rw[e] at J ⊢;exact Fo.deep_snoc p _ o cur J d) h;refine⟨this.1,?_,this.2.2⟩;have:=this.2.1;simp only[List.length_cons];omega
     · have e:201-st.length=(201-(st.length+1))+1:=oM
       have:=GU l (i+1) st (cur.snoc k .nil) fo D oM U K.up (Fo.ok_snoc cur k .nil F W tQ (by simp[Fo.len])) (by rw[Fo.len_snoc'];omega)
         (by rw[e] at d ⊢;exact Fo.deep_snoc cur _ k .nil d (by simp[Fo.deep])) h
       refine⟨this.1,?_,this.2.2⟩;have:=this.2.1;simp only[List.length_cons];omega
variable {fo:Fo}{toks:List AB}
theorem VT(d:∀t∈toks,t.ok)(G:toks.length≤100000)(h:Bt toks [] .nil=.ok fo):fo.all (Gx 200)∧fo.len≤100000:=by
 obtain⟨D,J,F⟩:=GU toks 0 [] .nil fo d oM (by simp) tQ tQ (by simp[Fo.len]) (by rfl) h;exact⟨N8 200 fo D F,oM⟩
end Go.SP
namespace Go.SP
open Go.SW Go.RowKit
variable {nm:Int}{ot toks:List AB}{F:Nat}{p1:Ps}{src:lU}
theorem Py:∀(n:Nat)(p:Ps)(l:lU)(toks:List AB),HH F n p l=.ok toks→toks.length≤n
 |n,p,[],toks,h=>by rw[LZ] at h;cases h;exact Nat.zero_le _
 |0,p,c::l,toks,h=>by cases h
 |n+1,p,c::l,toks,h=>by
   rw[Ib] at h
   split at h
   · cases h
   · rename_i t d D G
     split at h
     · cases h
     · rename_i J K
       cases h
       have:=Py n D d J K;have:=Qh G;rw[List.length_append];omega
theorem Oa{start:Ps}:∀(n:Nat)(p:Ps)(acc l tx r:lU)(d:Ps),GS start n p acc l=.ok (tx,r,d)→tx.length≤4096
 |0,_,_,_,_,_,_,h=>by cases h
 |n+1,p,acc,[],tx,r,d,h=>by cases h
 |n+1,p,acc,c::l,tx,r,d,h=>by
   rw[EB] at h
   split at h
   · split at h
     · cases h
     · rename_i hd
       cases h
       simp at hd;omega
   · split at h
     · cases h
     · split at h
       · exact Oa n _ _ _ tx r d h
       · split at h
         · cases h
         · split at h
           · cases h
           · exact Oa n _ _ _ tx r d h
theorem dW{w:lU}{k:Int}{tx:lU}(d:w≠[])(h:Jq w=some (k,nm,tx)):(k=5→tx≠[])∧tx.length≤100000∧k≠0∧k≠1:=by
 unfold Jq at h
 split at h
 · cases h;simp
 · split at h
   · cases h;simp[On,PT]
   · split at h
     · cases h
     · rename_i D
       simp only[Bool.or_eq_true,not_or,decide_eq_true_eq] at D
       split at h
       · cases h;exact⟨by simp,oM,dC,dC⟩
       · split at h
         · cases h;exact⟨λ_=>d,oM,dC,dC⟩
         · cases h
theorem bJ{p:Ps}{l r:lU}(h:DX F p l=.ok (ot,r,p1)):∀t∈ot,t.ok:=by
 cases l with
 |nil=>cases h
 |cons c r =>
   rw[DD] at h
   split at h
   · cases h;simp
   · split at h
     · simp only[Except.ok.injEq,Prod.mk.injEq] at h;rw[← h.1];simp
     · split at h
       · cases h;simp[AB.ok]
       · split at h
         · cases h;simp[AB.ok]
         · split at h
           · split at h
             · cases h
             · rename_i tx D G d
               cases h
               have:=Oa _ _ _ _ _ _ _ d;simp only[List.mem_singleton,forall_eq,AB.ok];exact⟨by simp,oM⟩
           · split at h
             · cases h
             · rename_i k nm tx hw
               simp only[Except.ok.injEq,Prod.mk.injEq] at h;rw[← h.1];simp only[List.mem_singleton,forall_eq,AB.ok];have:=dW (by simp) hw;exact⟨this.1,this.2.1⟩
theorem Tw:∀(n:Nat)(p:Ps)(l:lU)(toks:List AB),HH F n p l=.ok toks→∀t∈toks,t.ok
 |n,p,[],toks,h=>by rw[LZ] at h;cases h;simp
 |0,p,c::l,toks,h=>by cases h
 |n+1,p,c::l,toks,h=>by
   rw[Ib] at h
   split at h
   · cases h
   · rename_i t D G J
     split at h
     · cases h
     · rename_i K L
       cases h
       intro t d;rcases List.mem_append.1 d with d|d
       · exact bJ J t d
       · exact Tw n G D K L t d
theorem X7(h:LQ src=.ok toks):toks.length≤100000∧∀t∈toks,t.ok:=by
 unfold LQ at h
 split at h
 · cases h
 · rename_i D
   simp only[decide_eq_true_eq] at D
   split at h
   · cases h
   · rename_i l d
     cases h
     exact⟨by have:=Py _ _ _ _ d;omega,Tw _ _ _ _ d⟩
theorem dI{e:Int×Int×Int}(h:LQ src=.error e):(e.2.2 != 0)=true:=by
 unfold LQ at h
 split at h
 · cases h;rfl
 · split at h <;> cases h
   rfl
end Go.SP
namespace Go.Proofs.YtplnpgpagkpnmaaGreatDoor
open Go.SW Go.SP Go.RowKit Go.Proofs.Tryz
def FD(src:lU):Nd×Int×Int×Int:=Lz 200 (LQ src)
abbrev parV(p:Nd×Int×Int×Int)(a:oA)(c:Nat):Value:=.tuple #[.slice a p.1.len c,.agg #[.int .i64 p.2.1,.int .i64 p.2.2.1],.int .i64 p.2.2.2]
variable {f:Fq}{w w':wO}
theorem SD.out{p:Nd×Int×Int×Int}{v:Value}(h:SD p w f v w'):AF (α:=oA×Nat) (λx=>parV p x.1 x.2) (λ_=>True) (λx=>[λw f=>AJ w f p.1 x.1 x.2]) w f v w' :=
 let ⟨f',a,c,d,D,F⟩:=h
 ⟨(a,c),f',D,tQ,d,F,tQ⟩
theorem fO(w:wO)(f:Fq)(K:Vl w f)(L:Da w f)(src:lU) :
   AO prog 9 #[S src] w (AF (α:=oA×Nat) (λx=>parV (FD src) x.1 x.2) (λ_=>True) (λx=>[λw f=>AJ w f (FD src).1 x.1 x.2]) w f):=by
 refine AO.mono (R:=SD (FD src) w f) ?_ λ_ _ h=>SD.out h;unfold FD
 cases F:LQ src with
 |error e =>
   exact YS w f K L 199 src e (dI F) λG d=>by
     have:=Qe pfs G d src;rw[F] at this;exact this
 |ok D =>
   obtain⟨O,Q⟩:=X7 F
   exact dY w f K L 199 src D O (λU J=>VT Q O J) λG d=>by
     have:=Qe pfs G d src;rw[F] at this;exact this
theorem D8(w:wO)(f:Fq)(d:Vl w f)(n:Int) :
  AO prog 89 #[iV n] w (AF (α:=Unit) (λ_=>tV (.var n) none 0) (λ_=>True) (λ_=>[]) w f):=by
 exact Dq [] func89 C C C (AR d tQ tQ)<|Af 13 [0] (λb1=>y<|λ_=>VS (λw f h=>A3 C (Ac C AH h.k0 C)) C)
theorem MA(w:wO)(f:Fq)(Q:Vl w f)(l:List Int)(a:oA)(c:Nat)(n:Int)(Y:l.length≤1000000)(U:B7 w f l a c) :
  AO prog 131 #[.slice a l.length c,iV n] w (AF (α:=Unit) (λ_=>iV (Zt l n)) (λ_=>True) (λ_=>[]) w f):=by
 refine Dq [λw f=>B7 w f l a c] func131 C C C (AR Q ⟨U,tQ⟩ ⟨B7.mono,tQ⟩)<|Aa 14 (λ_=>?_);refine D6 (α:=Nat) (λi=>l.length-i) (λi=>i≤l.length∧(l.take i).contains n=false) (λi=>(E4 0 (.slice a l.length c) 1 (iV n) 7 (iV (l.length:Int)) 8 (iV (i:Int)))) (λi=>X0 w f) (λi=>[]) (λi=>[]) (λi=>[]) (λi=>[λw f=>B7 w f l a c]) (0) ⟨oM,C⟩ lE (λw f D=>D) ?_;rintro i ⟨Z,d⟩;refine Aa 6 (λ_=>A6 9 C C (λG=>?_) (λG=>?_));refine Aa 12 (λ_=>?_);have J:i<l.length:=by have:=dT G;omega
 obtain⟨v0,K⟩:∃v,l[i]?=some v:=⟨_,List.getElem?_eq_getElem J⟩;refine pH 0 C K ?_;rintro⟨b,off⟩ rfl;refine Af 9 [100,0] (aI oM<|y2<|λ_=>A6 16 C C (λL=>?_) (λL=>?_));exact Aa 10 (λ_=>So<|Aa 2 (λ_=>AK (Cy C C) (λw f D=>⟨(),f,(by rw[Zt,WX d (by rw[K,show v0=n from (beq_iff_eq.1 L).symm])]),tQ,D.exm,tQ⟩)));refine Aa 8 (aI ⟨oM,oM⟩<|λ_=>?_);have F:(l.take (i+1)).contains n=false:=by rw[Dx K];have W:¬n=v0:=(by simpa using L);have h8:n∉l.take i:=(by simpa using d);simp[h8,W]
 exact C0 (i+1) (show l.length-(i+1)<l.length-i by omega) ⟨oM,F⟩ lE (λw f D=>⟨_,D.less sR sR nE (λ_ h=>h)⟩);refine Aa 3 (λ_=>Dl<|Aa 8 (λ_=>?_));have O:l.length≤i:=by have:=dF G;omega
 rw[List.take_of_length_le O] at d;exact AK (Cy C C) (λw f D=>⟨(),f,(by rw[Zt,Oc d]),tQ,D.exm,tQ⟩)
theorem aM(m:Nat)(Z:OwnF prog 132 m)(w:wO)(f:Fq)(hv:Vl w f)(t:T1)(a:oA)(c:Nat)(hm:t.kids.size<m+1)(D:t.bnd)(hT:Ae w f t.kids a c) :
  AO prog 132 #[tV t a c] w (AF (α:=oA×Nat) (λx=>tV t x.1 x.2) (λ_=>True) (λx=>[λw f=>Ae w f t.kids x.1 x.2]) w f):=by
 have hbl:=D.1;refine Dq [λw f=>Ae w f t.kids a c] func132 C C C (AR hv ⟨hT,tQ⟩ ⟨Ae.mono,tQ⟩)<|Af 15 [1] (λb1=>λb2=>y<|λ_=>A6 9 C C (λU=>?_) (λU=>?_));refine Af 15 [1,1,0] (y<|y<|y<|λ_=>?_);have W:t.kids.len=0:=by have:=beq_iff_eq.1 U;omega
 exact AK (λw f d=>A3 C (Ac C AH d.k0 C)) (λw f d=>⟨(none,0),f,(by show Value.agg _=Value.agg _;rw[W]),tQ,d.exm,⟨by rw[Ty.len0 W];exact Ae.nil _ _ _ _,tQ⟩⟩);refine Af 8 [1] (y<|λ_=>mmk C C Cu C C C C (by have:=D.1;omega) (by have:=D.1;unfold maxLen;omega) λF=>Af 13 [1] (y<|λ_=>?_));refine D6 (α:=Nat×Ty×Ty×lV) (λx=>x.2.1.len) (λx=>x.1+x.2.1.len=t.kids.len∧x.2.2.1.len=x.1∧t.kids=x.2.2.1.app x.2.1∧x.2.1.bnd∧x.2.1.size≤t.kids.size) (λx=>(E6 1 (pB b1) 2 (pB b2) 3 (.slice (some ⟨F,0,none⟩) t.kids.len t.kids.len) 17 (.slice a t.kids.len c) 18 (iV (t.kids.len:Int)) 19 (iV (x.1:Int)))) (λx=>X0 w f) (λx=>[⟨b2,zT,123,true⟩,⟨b1,[iV t.op,iV t.num,S t.tx,.slice a t.kids.len c],123,true⟩]) (λx=>[⟨123,4,some ⟨F,0,none⟩,t.kids.len,t.kids.len,x.2.2.2++EZ x.2.1.len zT⟩]) (λx=>[]) (λx=>[λw f=>Bn w f a x.1 x.2.1,λw f=>AU w f x.2.2.1 x.2.2.2]) (0,t.kids,.nil,[]) ⟨by simp,C,C,D.2,Nat.le_refl _⟩ lE (λw f d=>d.more (B':=[]) (F':=[λw f=>Bn w f a 0 t.kids,λw f=>AU w f .nil []]) nE (AA.mem ⟨Ae.at d.f0,C,tQ⟩) (Ap.mem ⟨Bn.mono,AU.mono,tQ⟩) |>.less sR sR (λ_ h=>h) (mR [0,1])) ?_;rintro⟨i,r,K,xs⟩ ⟨Y,G,L,O,hs⟩;dsimp only at Y G L O hs ⊢;refine Aa 6 (λ_=>A6 20 C C (λQ=>?_) (λQ=>?_));refine Aa 6 (λ_=>?_);have hil:i<t.kids.len:=by have:=dT Q;omega
 obtain⟨t2,r,rfl⟩:=Ty.cases1 r oM;rw[T1.len_cons] at Y;refine Te 0 C ?_;rintro⟨eb,eo,ka,kc⟩ rfl;refine Af 13 [100,0,0,0] (aI oM<|y2<|λb3=>y<|y<|λ_=>BV C C (eC Np C C) (λw f d=>Z w f d.vl t2 ka kc (by have:=T1.size_cons t2 r;omega) (T1.bnd_cons.1 O).1 d.f0) (λx=>⟨Ae.mono,tQ⟩) ?_);rintro⟨a2,c2⟩ -;refine Aa 1 (aI oM<|λ_=>IF (λw f d=>AU.len d.f4) λJ=>?_);rw[G] at J;exact mrs 0 ((xs++tC t2 a2 c2)++EZ r.len zT) C C C C AH C C C (by simp only[Nat.zero_add,List.length_cons,List.length_nil,Int.toNat_natCast];omega) (by rw[Nat.zero_add,Int.toNat_natCast,← J,T1.len_cons,EZ];exact NR _ _ _ _ C) C<|Aa 7 (aI ⟨oM,oM⟩<|λ_=>C0 ((i+1,r,K.snoc t2,xs++tC t2 a2 c2)) (show r.len<(t2.cons r).len by rw[T1.len_cons];omega) ⟨show i+1+r.len=t.kids.len by omega,show (K.snoc t2).len=i+1 by rw[Ty.len_snoc,G],show t.kids=(K.snoc t2).app r by rw[L,Ty.snoc_app],(T1.bnd_cons.1 O).2,show r.size≤t.kids.size by have:=T1.size_cons t2 r;omega⟩ lE (λw f d=>⟨_,(d.more (B':=[]) (F':=[λw f=>AU w f (K.snoc t2) (xs++tC t2 a2 c2)]) nE (AA.mem ⟨AU.snoc d.f0 d.f4,tQ⟩) (Ap.mem ⟨AU.mono,tQ⟩)).less (List.sublist_cons_self _ _) sR nE (mR [3,0])⟩));refine Aa 3 (λ_=>Dl<|Aa 3 (λ_=>?_));obtain rfl:r=.nil:=Ty.len0 (by have:=dF Q;omega);rw[Ty.app_nil] at L;exact nA 0 C C<|Af 13 [1,1,0] (y<|y<|y<|λ_=>AK (λw f d=>A3 C (Ac C AH d.k0 C)) (λw f d=>⟨(some ⟨F,0,none⟩,t.kids.len),f,C,tQ,d.exm,⟨L▸AU.toF d.f1 (by have:=d.b0;simpa[EZ,Ty.len] using this) (Nat.le_refl _),tQ⟩⟩))
end Go.Proofs.YtplnpgpagkpnmaaGreatDoor
namespace Go.SP
def Nd.bnd:Nd→Prop
 |.nil=>True
 |.cons _ _ _ _ _ kids rest=>kids.len≤200000∧kids.bnd∧rest.bnd
def N.bnd(a:N):Prop:=a.kids.len≤200000∧a.kids.bnd
variable {r:Nd}
theorem N.bnd_cons{a:N}(h:a.bnd)(d:r.bnd):(a.cons r).bnd:=⟨h.1,h.2,d⟩
theorem Nd.bnd_app:∀{x y:Nd},x.bnd→y.bnd→(x.app y).bnd
 |.nil,_,_,h=>h
 |.cons _ _ _ _ _ _ _,_,h,d=>⟨h.1,h.2.1,Nd.bnd_app h.2.2 d⟩
def AB.er(t:AB):AB:=⟨t.k,0,0,t.nm,t.tx⟩
def Fo.er:Fo→Fo
 |.nil=>.nil
 |.cons t k r=>.cons t.er k.er r.er
def Nd.er:Nd→Nd
 |.nil=>.nil
 |.cons op _ _ tx nm kids r=>.cons op 0 0 tx nm kids.er r.er
def N.er(a:N):N:=⟨a.op,0,0,a.tx,a.nm,a.kids.er⟩
theorem Fo.app_nil:∀a:Fo,a.app .nil=a
 |.nil=>rfl
 |.cons _ _ r=>by simp only[Fo.app,Fo.app_nil r]
end Go.SP
namespace Go.SP
open Go.SW Go.RowKit
def pU(U:Nat→Prop)(w:World)(a:Option Addr)(i:Nat)(r:Nd):Prop :=
 r=.nil∨∃b off l T,U b∧a=some ⟨b,off,none⟩∧AE w b l T∧F8 U w r (l.drop (off+i*6))
variable {co ln nm:Int}{i:Nat}{U:Nat→Prop}{r:Nd}{a:Option Addr}{w':World}
theorem pU.ext{w:World}(h:pU U w a i r)(D:AT w w'):pU U w' a i r :=
 h.imp id λ⟨b,off,l,T,hu,F,G,J⟩=>⟨b,off,l,T,hu,F,G.ext D,J.ext D⟩
theorem pU.head{w:World}{op:Int}{tx:lU}{kids:Nd}(h:pU U w a i (.cons op ln co tx nm kids r)):∃b off l T ka kn kc D,U b∧a=some ⟨b,off,none⟩∧AE w b l T ∧
   l.drop (off+i*6)=.int .i64 op::.int .i64 ln::.int .i64 co::S tx::.int .i64 nm::.slice ka kn kc::D∧Hf U w ka kn kc kids:=by
 rcases h with h|⟨b,off,l,T,hu,F,G,ka,kn,kc,D,J,K,L⟩
 · cases h
 · exact⟨b,off,l,T,ka,kn,kc,D,hu,F,G,J,K⟩
theorem pU.next{w:World}{op:Int}{tx:lU}{kids:Nd}(h:pU U w a i (.cons op ln co tx nm kids r)):pU U w a (i+1) r:=by
 rcases h with h|⟨b,off,l,T,hu,D,F,ka,kn,kc,G,J,L,K⟩
 · cases h
 · refine .inr ⟨b,off,l,T,hu,D,F,?_⟩
   have:l.drop (off+(i+1)*6)=G:=by
     rw[show off+(i+1)*6=(off+i*6)+6 by omega,← List.drop_drop,J];rfl
   rw[this];exact K
theorem No{p:Nat→Prop}(D:p 0)(h:∀m,p m→p (m+1))(m:Nat):p m:=by
 induction m with
 |zero=>exact D
 |succ m F=>exact h m F
end Go.SP
namespace Go.SW
open Go.RowKit
variable {zl:List Value}{bytes cs k:Nat}{a:Option Addr}{e:TypeId}
theorem nQ{P:Program}{σ:AW}{w:World}{ty T:TypeId}{x y:Operand}{size:Nat}(D:Kc P T=some (e,size,bytes,zl)){b:Option Addr}{c:Nat}
   (F:ev σ x=some (.slice a k c)) (G:ev σ y=some (.slice b 0 cs)) (J:k≤c):AM P σ (.call {callee:=.builtin .append,args:=#[x,y],argTypes:=#[T,T]}) ty w (.slice a k c) w:=by
 unfold Kc at D
 split at D
 · rename_i Y hu
   split at D
   · rename_i i K
     intro Z _ _ _ _ h
     have L:(Builtin.firstCells i.size 0 (.slice b 0 cs)).run P w=.ok #[] w:=by
       cases b with
       |none=>simp[Builtin.firstCells]
       |some q=>simp only[Builtin.firstCells,Nat.zero_mul];exact run_loadCells_list (P:=P) w q [] (λj v O=>by simp at O)
     have W:∀q:Addr,(storeCells q []).run P w=.ok () w:=λq=>by simp[storeCells]
     cases a with
     |none=>simp[execOp,resolve,invoke,builtin,h _ _ F,h _ _ G,Builtin.append_,run_underlying hu,sizeOf,typeInfo,K,Builtin.lenOf,J,L]
     |some q=>simp[execOp,resolve,invoke,builtin,h _ _ F,h _ _ G,Builtin.append_,run_underlying hu,sizeOf,typeInfo,K,Builtin.lenOf,J,L,W]
   · cases D
 · cases D
end Go.SW
namespace Go.SP
open Go.SW Go.RowKit
variable {U:Nat→Prop}{a q':Option Addr}{w':World}
theorem Hf.lt{w:World}{n c:Nat}{x:Nd}(h:Hf U w a n c x):Hf (λb=>U b∧b<w.heap.size) w a n c x:=Hf.imp h λ_ hu D=>⟨⟨hu,D⟩,C⟩
theorem Hf.grow{w:World}{q:Option Addr}{n c:Nat}{x:Nd}(h:Hf U w a n c x)(F:EO q w q' w')(D:∀b,U b→some b≠rb q):Hf U w' a n c x :=
 Hf.imp h λb hu G=>⟨hu,F.block b G (D b hu)⟩
theorem EO.refl(a:Option Addr)(w:World):EO a w a w:=⟨C,C,C,Nat.le_refl _,λ_ _ _=>C,.inl C⟩
section
variable{P:Program}{n:Nat}{Q:AQ}{σ:AW}{ds:List Deferred}{w w0 w1:World}{ops:Array Oper}{ty T:TypeId}{pos:String}{af:Array Edge}{rest:List Oper}{d:Nat}{x y:Operand}
end
end Go.SP
namespace Go.Proofs.YtplnpgpagkpnmaaGreatDoor
open Go.SW Go.SP Go.RowKit Go.Proofs.Tryz
theorem OA(w:wO)(f:Fq)(d:Vl w f)(t:T1)(a:oA)(c:Nat)(D:t.bnd)(F:Ae w f t.kids a c) :
  AO prog 132 #[tV t a c] w (AF (α:=oA×Nat) (λx=>tV t x.1 x.2) (λ_=>True) (λx=>[λw f=>Ae w f t.kids x.1 x.2]) w f) :=
 No (p:=OwnF prog 132) (λw f d t a c h=>by omega) (λm G w f d t a c J K L=>aM m G w f d t a c J K L) (t.kids.size+1) w f d t a c (Nat.lt_succ_self _) D F
theorem Vq(w:wO)(f:Fq)(Q:Vl w f)(k:Ty)(a:oA)(c:Nat)(Z:k.len≤200000)(O:Ae w f k a c) :
  AO prog 94 #[.slice a k.len c] w (AF (α:=oA×Nat) (λx=>.slice x.1 k.len x.2) (λ_=>True) (λx=>[λw f=>Ae w f k x.1 x.2]) w f):=by
 refine Dq [λw f=>Ae w f k a c] func94 C C C (AR Q ⟨O,tQ⟩ ⟨Ae.mono,tQ⟩)<|Aa 12 (λ_=>A6 4 C C (λF=>?_) (λF=>?_));obtain rfl:a=none:=by cases a with|none=>rfl|some q=>cases F
 obtain rfl:k=.nil:=by rcases O.2 with h|⟨_,_,h,_⟩;exact h;cases h
 exact Aa 8 (λ_=>AK (Cy C C) (λw f d=>⟨(none,0),f,C,tQ,d.exm,⟨Ae.nil _ _ _ _,tQ⟩⟩));refine Aa 5 (λ_=>xV C C Oz λG=>Aa 1 (λ_=>?_));rcases Nat.eq_zero_or_pos k.len with D|D
 obtain rfl:=Ty.len0 D;exact Cz C C (λw f d=>nQ Cu C C (Nat.le_refl _))<|Aa 4 (λ_=>AK (Cy C C) (λw f d=>⟨(some ⟨G,0,none⟩,0),f,C,tQ,d.exm,⟨Ae.nil _ _ _ _,tQ⟩⟩));refine Ja (α:=Nat×Nat×lV) (λx=>a=some ⟨x.1,x.2.1,none⟩∧(∀v∈x.2.2,v.oneCell'=true)∧x.2.2.length=k.len*4) (λx=>[⟨x.1,x.2.1,x.2.2⟩]) (λx=>[λw f=>AU w f k x.2.2]) (λw f d=>let ⟨x,F,U,W⟩:=Ae.cells (k:=k) (a:=a) (c:=c) d.f0 D;⟨x,F,(oE U),AA.mem ⟨W,tQ⟩⟩) (λx=>Ap.mem ⟨AU.mono,tQ⟩) ?_;rintro⟨eb,eo,xs⟩ ⟨rfl,J,K⟩;exact pD 0 0 C C Cu C C C C C C K J D (λ_ _=>C) oM oM λa2 c2=>Aa 4 (λ_=>AK (Cy C C) (λw f d=>let ⟨f2,L,Y⟩:=OY d d.f0 D;⟨(a2,c2),f2,by simp only[Nat.zero_add],tQ,L.exm,⟨Y,tQ⟩⟩))
theorem CC(w:wO)(f:Fq)(h:Vl w f)(tx:lU)(k:Ty)(a:oA)(c:Nat)(D:k.len≤200000)(F:Ae w f k a c) :
  AO prog 42 #[S tx,.slice a k.len c] w (AF (α:=oA×Nat) (λx=>tV (.con tx k) x.1 x.2) (λ_=>True) (λx=>[λw f=>Ae w f k x.1 x.2]) w f):=by
 refine Dq [λw f=>Ae w f k a c] func42 C C C (AR h ⟨F,tQ⟩ ⟨Ae.mono,tQ⟩)<|Aa 9 (λb1=>λ_=>BV C C (eC eD C C) (λw f d=>Vq w f d.vl k a c D d.f0) (λx=>⟨Ae.mono,tQ⟩) ?_);rintro⟨a2,c2⟩ -;exact Af 5 [0] (y<|λ_=>AK (λw f d=>A3 C (Ac C AH d.k0 C)) (λw f d=>⟨(a2,c2),f,C,tQ,d.exm,⟨d.f0,tQ⟩⟩))
theorem Fv(w:wO)(f:Fq)(hv:Vl w f)(sb mb:Nat)(s:BT)(fr pr:Int)(hS:B9 222 sb mb s fr pr w f)(hw:IP s)(t:T1)(a:oA)(c:Nat)(hb:t.bnd)(hT:Ae w f t.kids a c) :
  AO prog 166 #[pB sb,tV t a c] w (AF (α:=oA×Nat) (λx=>tV (An s t) x.1 x.2) (λ_=>True) (λx=>[λw f=>Ae w f (An s t).kids x.1 x.2]) w f):=by
 obtain⟨F,es,G,U⟩:=hS;have Q:=FQ.dis U hw;have L:=F.lt;have O:=G.lt;refine Dq [λw f=>Ae w f t.kids a c] func166 C C C (AR hv ⟨hT,tQ⟩ ⟨Ae.mono,tQ⟩)<|Aa 8 (λb1=>λb2=>λ_=>?_);refine D6 (α:=T1×oA×Nat) (λx=>Ey s x.1) (λx=>An s t=An s x.1∧x.1.bnd) (λx=>(E3 0 (pB sb) 3 (pB b1) 4 (pB b2))) (λx=>X0 w f) (λx=>[⟨b2,zT,123,true⟩,⟨b1,tC x.1 x.2.1 x.2.2,123,true⟩]) (λx=>[]) (λx=>[]) (λx=>[λw f=>Ae w f x.1.kids x.2.1 x.2.2]) (t,a,c) ⟨C,hb⟩ lE (λw f J=>J) ?_;rintro⟨u,Z,uc⟩ ⟨hh,hub⟩;dsimp only at hh hub ⊢;refine Af 8 [1] (y<|λ_=>A6 9 C C (λh1=>?_) (λh1=>?_));refine Aa 5 (λ_=>?_);obtain⟨n,rfl⟩:=Ec h1
 cases hl:CK s n with
 |none =>
  have W:=(FQ.look U n).1 hl;refine IQ (λw=>AE w sb [.map (some mb),iV fr,iV pr] 222∧BM ED w mb es) (λw2 f2 _ d=>⟨(d.stp.block sb L (λh=>h)).trans F,G.heap (d.stp.block mb O (λh=>h))⟩) [0,1] Aj (rd [0,1,2,3,4,5,6,7,8,9] (.br 10 (.br 11 (.rd 12 .fin) .fin) .fin)) C kR kR kR (λ_ _ _ _ _ h=>h)<|AN 3 (λ_=>CP C C C (λw Y=>Ai C UE Y.2.2.1 C)<|Bh 2 [1] (y<|λ_=>CP C C C (λw Y=>K4 (K:=ED) (a:=n) C C Vk Pv K2 Y.2.2.2 Q W)<|AN 3 (λ_=>Ah C<|Aa 2 (λb3=>λ_=>AS [1,2] (λw2 f2 _ d=>⟨(d.stp.block sb L (λh=>h)).trans F,G.heap (d.stp.block mb O (λh=>h))⟩) C (λ_ h=>h)<|Ah C ?_))));refine Af 2 [0] (y<|λ_=>AS [1,2] (λw2 f2 _ d=>⟨(d.stp.block sb L (λh=>h)).trans F,G.heap (d.stp.block mb O (λh=>h))⟩) C (λ_ h=>h)<|AN 1 (λ_=>Bp<|Aa 12 (λ_=>Dl<|Af 9 [2,1] (y<|y<|λ_=>?_))));have D:An s t=.var n:=by rw[hh,Oo hl]
  exact AK (λw f J=>A3 C (Ac C AH J.k1 C)) (λw f J=>⟨(Z,uc),f,(by show _=tV (An s t) Z uc;rw[D]),tQ,J.exm,⟨by show Ae w f (An s t).kids Z uc;rw[D];exact J.f0,tQ⟩⟩)
 |some t2 =>
  refine Ja (α:=oA×Nat) (λx=>EF es n=some (tV t2 x.1 x.2)) (λx=>[]) (λx=>[λw f=>Ae w f t2.kids x.1 x.2]) (λw f J=>let ⟨a2,c2,h1,h2⟩:=(FQ.look U n).2 t2 hl;⟨(a2,c2),h1,nE,AA.mem ⟨Ae.mono _ _ _ _ h2 J.ent,tQ⟩⟩) (λx=>Ap.mem ⟨Ae.mono,tQ⟩) ?_;rintro⟨a2,c2⟩ W;refine IQ (λw=>AE w sb [.map (some mb),iV fr,iV pr] 222∧BM ED w mb es) (λw2 f2 _ d=>⟨(d.stp.block sb L (λh=>h)).trans F,G.heap (d.stp.block mb O (λh=>h))⟩) [0,1] Aj (rd [0,1,2,3,4,5,6,7,8,9] (.br 10 (.br 11 (.rd 12 .fin) .fin) .fin)) C kR kR kR (λ_ _ _ _ _ h=>h)<|AN 3 (λ_=>CP C C C (λw Y=>Ai C UE Y.2.2.1 C)<|Bh 2 [1] (y<|λ_=>CP C C C (λw Y=>K5 (K:=ED) (a:=n) C C Vk Pv K2 Y.2.2.2 Q W)<|AN 3 (λ_=>Ah C<|Aa 2 (λb3=>λ_=>AS [1,2] (λw2 f2 _ d=>⟨(d.stp.block sb L (λh=>h)).trans F,G.heap (d.stp.block mb O (λh=>h))⟩) C (λ_ h=>h)<|Ah C ?_))));exact Af 2 [0] (y<|λ_=>AS [1,2] (λw2 f2 _ d=>⟨(d.stp.block sb L (λh=>h)).trans F,G.heap (d.stp.block mb O (λh=>h))⟩) C (λ_ h=>h)<|AN 1 (λ_=>Bp<|Af 16 [0,2] (y<|y<|λ_=>C0 ((t2,a2,c2)) (mG hw hl) ⟨by rw[hh,UL hw hl],Ov hw hl⟩ lE (λw f J=>⟨_,J.less (List.sublist_cons_self _ _) sR nE (mR [0])⟩))))
 refine Aa 3 (λ_=>Dl<|Af 9 [1,0] (y<|y<|λ_=>?_));obtain⟨tx,k,rfl⟩:=EH h1;have D:An s t=.con tx k:=by rw[hh,G6]
 exact AK (λw f J=>A3 C (Ac C AH J.k0 C)) (λw f J=>⟨(Z,uc),f,(by show _=tV (An s t) Z uc;rw[D]),tQ,J.exm,⟨by show Ae w f (An s t).kids Z uc;rw[D];exact J.f0,tQ⟩⟩)
theorem Tm(w:wO)(f:Fq)(D:Vl w f)(d:Nat)(n:Int)(J:0≤n∧n≤100000)(F:Ke d n w f)(G:f d=0)(t:T1)(a:oA)(c:Nat) :
  AO prog 175 #[tV t a c,pB d] w (CY (α:=Unit) (λ_=>.bool (decide (n+1≤1000))) (λ_=>True) (λb=>b=d) (λ_=>Ke d (n+1)) (λ_=>[]) w f):=by
 exact Hm (X:=⟨λb=>b=d,λ_=>False,λ_ _=>True,w,f⟩) (H:=[⟨d,[iV n],3,false⟩]) (R:=[]) (B:=[]) (Fs:=[]) (f:=f) func175 C C C (vZ D F G tQ tQ)<|Af 21 [1,1,1] (λb1=>y<|aI ⟨oM,oM⟩<|y<|y<|λ_=>AK (Cy C C) (λw f h=>⟨(),f,C,tQ,h.exm,h.blk _ qC,tQ⟩))
theorem UH(k:Nat)(ih:∀j,j<k→VisF prog 174 222 175 j)(w:wO)(f:Fq)(hv:Vl w f)(sb mb:Nat)(s:BT)(fr pr:Int)(F:Nat)(hS:B9 222 sb mb s fr pr w f)(hw:IP s)(Q:sb≠F)(U:mb≠F)(hf:f F=0)(hC:Ke F (1000-(k:Int)) w f)(hk:k≤1000)(t:T1)(a:oA)(c:Nat)(hb:t.bnd)(hT:Ae w f t.kids a c) :
  AO prog 174 #[pB sb,tV t a c,.func (.func 175) #[] #[pB F]] w (CY (α:=Int) (λ_=>.bool (B4 s k t.one).isSome) (λx=>∀j,B4 s k t.one=some j→x=1000-(j:Int)) (λb=>b=F) (λx=>Ke F x) (λ_=>[]) w f):=by
 have hkb:=(C2 hw hb).1;refine Hm (X:=⟨λb=>b=F,λb=>b=F,Ke F (1000-(k:Int)),w,f⟩) (H:=[]) (R:=[]) (B:=[]) (Fs:=[λw f=>Ae w f t.kids a c]) (f:=f) func174 C C C (LX (M:=λb=>b=F) (I:=Ke F (1000-(k:Int))) hv hC (Ke.stab C) (λb hb=>by cases hb;exact⟨AE.lt hC,hf⟩) ⟨hT,tQ⟩ ⟨Ae.mono,tQ⟩)<|Af 10 [0] (λb1=>y<|λ_=>BV C C (eC I1 C C) (λw f d=>Fv w f d.vl sb mb s fr pr (B9.keep hS d.exm d.ent Q U) hw t a c hb d.f0) (λx=>⟨Ae.mono,tQ⟩) ?_);rintro⟨W,hc⟩ -;refine Af 8 [0,0] (y<|y<|λ_=>JK (XX:=λ_ _=>False) C C (λ_=>Uy (caps:=[pB F]) oN C C) (λw f d=>(Tm w f d.vl F (1000-(k:Int)) oM d.res (d.mi F C).2.1 (An s t) W hc).retP) (λ_=>Ke.stab C) (λ_=>trivial) (λ_ _ _ _ _ h=>h.elim) ?_);rintro⟨⟩ -;refine Aa 3 (λ_=>?_)
 ·
  refine A6 15 C C (λY=>?_) (λY=>?_);replace Y:=Ee Y;refine Aa 8 (λ_=>?_);obtain rfl:k=0:=by have:=dF Y;omega
  have D:=Lb s t
  rotate_left
  replace Y:=Eh Y;refine Aa 5 (λ_=>?_);obtain⟨k2,rfl⟩:∃k2,k=k2+1:=⟨k-1,by have:=dT Y;omega⟩;refine Af 6 [0] (y<|λ_=>A6 18 C C (λh2=>?_) (λh2=>?_));refine Af 10 [0] (y<|λ_=>?_);refine D6 (α:=Nat×Ty×Nat) (λx=>x.2.1.len) (λx=>x.1+x.2.1.len=(An s t).kids.len∧B4 s k2 (An s t).kids=B4 s x.2.2 x.2.1∧x.2.2≤k2∧x.2.1.bnd) (λx=>(E6 0 (pB sb) 2 (.func (.func 175) #[] #[pB F]) 4 (pB b1) 20 (.slice W (An s t).kids.len hc) 21 (iV ((An s t).kids.len:Int)) 22 (iV (x.1:Int)))) (λx=>⟨λb=>b=F,λb=>b=F,Ke F (1000-(x.2.2:Int)),w,f⟩) (λx=>[⟨b1,tC (An s t) W hc,123,true⟩]) (λx=>[]) (λx=>[]) (λx=>[λw f=>Bn w f W x.1 x.2.1]) (0,(An s t).kids,k2) ⟨by simp,C,Nat.le_refl _,(C2 hw hb).2⟩ lE (λw f d=>(by have K:=d.more (B':=[]) (F':=[λw f=>Bn w f W 0 (An s t).kids]) nE (AA.mem ⟨Ae.at d.f0,tQ⟩) (Ap.mem ⟨Bn.mono,tQ⟩) |>.less (H':=[⟨b1,tC (An s t) W hc,123,true⟩]) (R':=[]) (B':=[]) (F':=[λw f=>Bn w f W 0 (An s t).kids]) sR sR nE (mR [0]);rw[show (1000-((k2+1:Nat):Int))+1=1000-(k2:Int) by omega] at K;exact K)) ?_;rintro⟨i,r,j⟩ ⟨hi,J,hjk,Z⟩;dsimp only at hi J hjk Z ⊢;refine Aa 6 (λ_=>A6 23 C C (λh3=>?_) (λh3=>?_));refine Aa 6 (λ_=>?_);have hil:i<(An s t).kids.len:=by have:=dT h3;omega
  obtain⟨t2,r,rfl⟩:=Ty.cases1 r oM;rw[T1.len_cons] at hi;refine Te 0 C ?_;rintro⟨eb,eo,ka,kc⟩ rfl;refine Af 12 [100,0,0,0] (aI oM<|y2<|λb2=>y<|y<|λ_=>JK (XX:=λ_ _=>False) C C (eC MT C C) (λw f d=>(ih j oM w f d.vl sb mb s fr pr F (B9.keep hS d.exm d.ent Q U) hw Q U (d.mi F C).2.1 d.res oM t2 ka kc (T1.bnd_cons.1 Z).1 d.f0).retP) (λ_=>Ke.stab C) (λ_=>trivial) (λ_ _ _ _ _ h=>h.elim) ?_);rintro cx hcx;refine Aa 3 (λ_=>A6 30 C C (λO=>?_) (λO=>?_));replace O:=Ee O;have L:B4 s j t2.one=none:=by cases hx:B4 s j t2.one with|none=>rfl|some q=>rw[hx] at O;cases O
  refine Aa 9 (λ_=>So<|Aa 2 (λ_=>?_));have G:=JS s k2 t;have D:B4 s (k2+1) t.one=none:=by rw[G,J,J5,L];rfl
  rotate_left
  replace O:=Eh O;obtain⟨j2,L⟩:=Option.isSome_iff_exists.1 O;exact Aa 8 (aI ⟨oM,oM⟩<|λ_=>C0 ((i+1,r,j2)) (show r.len<(t2.cons r).len by rw[T1.len_cons];omega) ⟨show i+1+r.len=(An s t).kids.len by omega,show B4 s k2 (An s t).kids=B4 s j2 r by rw[J,J5,L];rfl,show j2≤k2 by have:=F4 s j t2.one j2 L;omega,(T1.bnd_cons.1 Z).2⟩ lE (λw f d=>⟨_,by have K:=d.less (H':=[⟨b1,tC (An s t) (some ⟨eb,eo,none⟩) hc,123,true⟩]) (R':=[]) (B':=[]) (F':=[λw f=>Bn w f (some ⟨eb,eo,none⟩) (i+1) r]) (List.sublist_cons_self _ _) sR nE (mR [1]);rw[hcx j2 L] at K;exact K⟩));refine Aa 3 (λ_=>Dl<|Aa 8 (λ_=>?_));have G:=JS s k2 t;obtain rfl:r=.nil:=Ty.len0 (by have:=dF h3;omega);have D:B4 s (k2+1) t.one=some j:=by rw[G,J];cases j <;> rfl
  exact AK (Cy C C) (λw f d=>⟨_,f,(by rw[D];rfl),(λq h=>by rw[D] at h;cases h;rfl),d.exm,d.res,tQ⟩);refine Aa 9 (λ_=>?_);have G:=JS s k2 t;obtain⟨n,hv2⟩:=Ec (t:=An s t) (by have:=h2;simpa using this);have D:B4 s (k2+1) t.one=some k2:=by rw[G,hv2];cases k2 <;> rfl
  exact AK (Cy C C) (λw f d=>⟨_,f,(by rw[D];rfl),(λq h=>by rw[D] at h;cases h;omega),d.exm,d.res,tQ⟩)
  all_goals
   exact AK (Cy C C) (λw f d=>⟨_,f,(by rw[D];rfl),(λj h=>by rw[D] at h;cases h),d.exm,d.res,tQ⟩)

theorem U5:∀k,VisF prog 174 222 175 k:=λk=>Nat.strongRecOn k λk D w f F sb mb s fr pr G J hw d h K L O t a c Q U=>UH k D w f F sb mb s fr pr G J hw d h K L O t a c Q U
theorem OX(w:wO)(f:Fq)(L:Vl w f)(sb mb:Nat)(s:BT)(fr pr:Int)(F:B9 222 sb mb s fr pr w f)(hw:IP s)(t:T1)(a:oA)(c:Nat)(G:t.bnd)(O:Ae w f t.kids a c) :
  AO prog 144 #[pB sb,tV t a c] w (AF (α:=Unit) (λ_=>.bool (Hy s t)) (λ_=>True) (λ_=>[]) w f):=by
 have J:=F.1.lt;have K:mb<w.heap.size:=by obtain⟨_,es,h,_⟩:=F;exact h.lt
 refine Dq [λw f=>Ae w f t.kids a c] func144 C C C (AR L ⟨O,tQ⟩ ⟨Ae.mono,tQ⟩)<|Af 16 [0,1] (λb1=>λb2=>y<|y<|λ_=>Cz C C (λw f d=>Rw C)<|vL 0 C C<|IF (λw f d=>(⟨λe=>(d.mi _ (.inr C)).2.2.elim (λh=>absurd J (by rw[e];exact Nat.not_lt.2 h)) (λh=>h),λe=>(d.mi _ (.inr C)).2.2.elim (λh=>absurd K (by rw[e];exact Nat.not_lt.2 h)) (λh=>h)⟩:sb≠b2∧mb≠b2)) λD=>JK (α:=Int) (val:=λ_=>.bool (B4 s 1000 t.one).isSome) (q:=λ_=>True) (I':=λx w f=>True∧Ke b2 x w f) (F':=λ_=>[]) (XX:=λ_ _=>False) C C (eC MT C C) (λw f d=>((U5 1000 w f d.vl sb mb s fr pr b2 (B9.keep F d.exm d.ent (λh=>h) (λh=>h)) hw D.1 D.2 (d.mi _ (.inr C)).2.1 d.res.2 (Nat.le_refl _) t a c G d.f0).mono λv w2 ⟨x,f2,Q,h2,U,W,Y⟩=>⟨x,f2,Q,tQ,U.mono (λb G=>.inr G),⟨tQ,W⟩,Y⟩).retP) (λ_=>(λ_ _ _ _ h Z hm=>⟨tQ,Ke.stab (MI:=λb=>False∨b=b2) (.inr C) _ _ _ _ h.2 Z hm⟩)) (λ_=>trivial) (λ_ _ _ _ _ h=>h.elim) ?_);rintro cx -;exact Aa 4 (λ_=>AK (Cy C C) (λw f d=>⟨(),f,(by rw[Hy,Fc]),tQ,d.exm,tQ⟩))
theorem Uv(w:wO)(f:Fq)(K:Vl w f)(D:Nat)(x:Int)(J:AE w D [iV x] 3)(t:T1)(a:oA)(c:Nat) :
  AO prog 195 #[tV t a c,pB D] w (AF (α:=Unit) (λ_=>.bool (XR x t)) (λ_=>True) (λ_=>[]) w f):=by
 have F:=J.lt;refine Dq [] func195 C C C (AR K tQ tQ)<|Af 12 [0] (λb1=>y<|λ_=>A6 7 C C (λG=>?_) (λG=>?_));refine Aa 9 (λ_=>?_)
 cases t with
 |var m=>cases G
 |con tx k=>exact AK (Cy C C) (λw f d=>⟨(),f,C,tQ,d.exm,tQ⟩)
 refine Af 2 [0] (y<|λ_=>Cz C C (λw f d=>Ai C Gu ((d.stp.block D F (λh=>h)).trans J) C)<|Aa 6 (λ_=>?_))
 cases t with
 |var m=>exact AK (Cy C C) (λw f d=>⟨(),f,C,tQ,d.exm,tQ⟩)
 |con tx k=>cases G
theorem Sp(k:Nat)(ih:∀j,j<k→zV prog 174 222 195 j)(w:wO)(f:Fq)(hv:Vl w f)(sb mb:Nat)(s:BT)(fr pr:Int)(L:Nat)(x:Int)(hS:B9 222 sb mb s fr pr w f)(hw:IP s)(hB:AE w L [iV x] 3)(t:T1)(a:oA)(c jj:Nat)(hb:t.bnd)(hT:Ae w f t.kids a c)(F:B4 s k t.one=some jj) :
  AO prog 174 #[pB sb,tV t a c,.func (.func 195) #[] #[pB L]] w (AF (α:=Unit) (λ_=>.bool (CL s x k t.one)) (λ_=>True) (λ_=>[]) w f):=by
 have hkb:=(C2 hw hb).1;have Y:=hB.lt;obtain⟨k2,rfl⟩:∃q,k=q+1:=by cases k with|zero=>rw[Lb] at F;cases F|succ q=>exact⟨q,C⟩
 have Z:B4 s k2 (An s t).kids=some jj:=by rw[← JS];exact F
 refine Dq [λw f=>Ae w f t.kids a c] func174 C C C (AR hv ⟨hT,tQ⟩ ⟨Ae.mono,tQ⟩)<|Af 10 [0] (λb1=>y<|λ_=>BV C C (eC I1 C C) (λw f d=>Fv w f d.vl sb mb s fr pr (B9.keep hS d.exm d.ent (λh=>h) (λh=>h)) hw t a c hb d.f0) (λx=>⟨Ae.mono,tQ⟩) ?_);rintro⟨Q,hc⟩ -;refine Af 8 [0,0] (y<|y<|λ_=>BV C C (λ_=>Uy (caps:=[pB L]) nF C C) (λw f d=>Uv w f d.vl L x ((d.stp.block L Y (λh=>h)).trans hB) (An s t) Q hc) (λx=>trivial) ?_);rintro⟨⟩ -;refine Aa 3 (λ_=>?_)
 ·
  refine A6 15 C C (λO=>?_) (λO=>?_);replace O:=Ee O;refine Aa 8 (λ_=>?_);have D:CL s x (k2+1) t.one=false:=by rw[JC,O];rfl
  rotate_left
  replace O:=Eh O;refine Af 11 [0] (y<|λ_=>A6 18 C C (λh2=>?_) (λh2=>?_));refine Af 10 [0] (y<|λ_=>?_);refine D6 (α:=Nat×Ty×Nat) (λy=>y.2.1.len) (λy=>y.1+y.2.1.len=(An s t).kids.len∧B4 s k2 (An s t).kids=B4 s y.2.2 y.2.1∧y.2.2≤k2∧y.2.1.bnd∧CL s x k2 (An s t).kids=CL s x y.2.2 y.2.1) (λy=>(E6 0 (pB sb) 2 (.func (.func 195) #[] #[pB L]) 4 (pB b1) 20 (.slice Q (An s t).kids.len hc) 21 (iV ((An s t).kids.len:Int)) 22 (iV (y.1:Int)))) (λy=>X0 w f) (λy=>[⟨b1,tC (An s t) Q hc,123,true⟩]) (λy=>[]) (λy=>[]) (λy=>[λw f=>Bn w f Q y.1 y.2.1]) (0,(An s t).kids,k2) ⟨by simp,C,Nat.le_refl _,(C2 hw hb).2,C⟩ lE (λw f d=>d.more (B':=[]) (F':=[λw f=>Bn w f Q 0 (An s t).kids]) nE (AA.mem ⟨Ae.at d.f0,tQ⟩) (Ap.mem ⟨Bn.mono,tQ⟩) |>.less (H':=[⟨b1,tC (An s t) Q hc,123,true⟩]) (R':=[]) (B':=[]) (F':=[λw f=>Bn w f Q 0 (An s t).kids]) sR sR nE (mR [0])) ?_;rintro⟨i,r,j⟩ ⟨hi,G,hjk,U,K⟩;dsimp only at hi G hjk U K ⊢;refine Aa 6 (λ_=>A6 23 C C (λh3=>?_) (λh3=>?_));refine Aa 6 (λ_=>?_);have hil:i<(An s t).kids.len:=by have:=dT h3;omega
  obtain⟨t2,r,rfl⟩:=Ty.cases1 r oM;rw[T1.len_cons] at hi;refine Te 0 C ?_;rintro⟨eb,eo,ka,kc⟩ rfl;refine Af 12 [100,0,0,0] (aI oM<|y2<|λb2=>y<|y<|λ_=>?_);obtain⟨j2,J⟩:∃q,B4 s j t2.one=some q:=by cases hx:B4 s j t2.one with|some q=>exact⟨q,C⟩|none=>rw[G,J5,hx] at Z;cases Z
  refine B3 C C (eC MT C C) (λw f d=>ih j oM w f d.vl sb mb s fr pr L x (B9.keep hS d.exm d.ent (λh=>h) (λh=>h)) hw ((d.stp.block L Y (λh=>h)).trans hB) t2 ka kc j2 (T1.bnd_cons.1 U).1 d.f0 J)<|Aa 3 (λ_=>A6 30 C C (λW=>?_) (λW=>?_));replace W:=Ee W;refine Aa 9 (λ_=>So<|Aa 2 (λ_=>?_));have D:CL s x (k2+1) t.one=false:=by rw[JC,K,Qf J,W];simp
  rotate_left
  replace W:=Eh W;exact Aa 8 (aI ⟨oM,oM⟩<|λ_=>C0 ((i+1,r,j2)) (show r.len<(t2.cons r).len by rw[T1.len_cons];omega) ⟨show i+1+r.len=(An s t).kids.len by omega,show B4 s k2 (An s t).kids=B4 s j2 r by rw[G,J5,J];rfl,show j2≤k2 by have:=F4 s j t2.one j2 J;omega,(T1.bnd_cons.1 U).2,show CL s x k2 (An s t).kids=CL s x j2 r by rw[K,Qf J,W];rfl⟩ lE (λw f d=>⟨_,d.less (H':=[⟨b1,tC (An s t) (some ⟨eb,eo,none⟩) hc,123,true⟩]) (R':=[]) (B':=[]) (F':=[λw f=>Bn w f (some ⟨eb,eo,none⟩) (i+1) r]) (List.sublist_cons_self _ _) sR nE (mR [1])⟩));refine Aa 3 (λ_=>Dl<|Aa 8 (λ_=>?_));obtain rfl:r=.nil:=Ty.len0 (by have:=dF h3;omega);have D:CL s x (k2+1) t.one=true:=by rw[JC,O,K];cases j <;> rfl
  rotate_left
  refine Aa 9 (λ_=>?_);obtain⟨n,hv2⟩:=Ec (t:=An s t) (by have:=h2;simpa using this);have D:CL s x (k2+1) t.one=true:=by rw[JC,O,hv2];cases k2 <;> rfl
  all_goals
   exact AK (Cy C C) (λw f d=>⟨(),f,(by rw[D]),tQ,d.exm,tQ⟩)

theorem Ub:∀k,zV prog 174 222 195 k:=λk=>Nat.strongRecOn k λk d w f h sb mb s fr pr D x F hw G t a c j J K L=>Sp k d w f h sb mb s fr pr D x F hw G t a c j J K L
theorem LJ(w:wO)(f:Fq)(Y:Vl w f)(sb mb:Nat)(s:BT)(fr pr:Int)(Z:B9 222 sb mb s fr pr w f)(hf:f sb=0∧f mb=0)(L:sb≠mb)(hw:IP s)(n:Int)(O:CK s n=none)(t:T1)(a:oA)(c:Nat)(U:t.bnd)(hT:Ae w f t.kids a c) :
  AO prog 167 #[pB sb,iV n,tV t a c] w (CY (α:=Unit) (λ_=>iV (Kr s n t).1) (λ_=>True) (MO sb mb) (λ_=>B9 222 sb mb (Kr s n t).2 fr pr) (λ_=>[]) w f):=by
 refine Hm (X:=XS 222 sb mb s fr pr w f) (H:=[]) (R:=[]) (B:=[]) (Fs:=[λw f=>Ae w f t.kids a c]) (f:=f) func167 C C C (mD Y Z hf ⟨hT,tQ⟩ ⟨Ae.mono,tQ⟩)<|Af 12 [0] (λb1=>λb2=>y<|λ_=>B3 C C (eC X5 C C) (λw f d=>OX w f d.vl sb mb s fr pr d.res hw t a c U d.f0)<|Aa 3 (λ_=>?_))
 ·
  refine A6 10 C C (λD=>?_) (λD=>?_);replace D:=Ee D;refine Aa 8 (λ_=>?_);have J:=XV (n:=n) D
  rotate_left
  replace D:=Eh D;refine Af 8 [0] (y<|λ_=>Cz C C (λw f d=>Rw C) ?_);obtain⟨j,hj⟩:∃j,B4 s 1000 t.one=some j:=by have W:=D;rw[Hy,Fc] at W;exact Option.isSome_iff_exists.1 W
  refine B3 C C (eC MT C C) (λw f d=>Ub 1000 w f d.vl sb mb s fr pr b1 n d.res hw d.k1 t a c j U d.f0 hj)<|Aa 3 (λ_=>A6 15 C C (λF=>?_) (λF=>?_));replace F:=Ee F;refine Aa 8 (λ_=>?_);have J:=eP D F
  rotate_left
  replace F:=Eh F;refine Aa 4 (λ_=>mxi (oP 222 sb mb s fr pr) (λw f h=>let ⟨D,es,F,h3⟩:=h;⟨es,D,F,h3⟩) (λ_=>oP.stab (.inl C) (.inr C)) ?_);intro es;refine IF (λw f d=>(⟨FQ.dis d.res.2.2 hw,(FQ.look d.res.2.2 n).1 O⟩:Kq es∧EF es n=none)) λG=>IQ (λw=>AE w sb [.map (some mb),iV fr,iV pr] 222) (λw f h _=>h.1) [0,1] Aj (rd [0,1,2,3,4,5] (.br 6 .fin .fin)) C kR kR kR (λ_ _ _ _ _ h=>h)<|AN 3 (λ_=>CP C C C (λw hK=>Ai C UE hK.2.2 C)<|Bh 2 [1,0] (y<|y<|λ_=>Ah C<|iS (K:=ED) (a:=n) (l:=es) (I':=B9 222 sb mb ((n,t)::s) fr pr) C C C C Vk Pv (.inr C) G.1 G.2 (λw f h=>h.2.1) (λw f w2 h d Q hm=>⟨(Q.block sb L).trans h.1,_,hm,a,c,es,C,Ae.mono _ _ _ _ d.f0 (Q.fle (d.mi mb (.inr C)).2.1),FQ.mono (Q.fle (d.mi mb (.inr C)).2.1) s es h.2.2⟩) (B9.stab (.inl C) (.inr C))<|Aa 1 (λ_=>AS [0,1] (λw f h _=>h.1) C (λ_ h=>h)<|Bp ?_)));refine Aa 7 (λ_=>?_);have J:=fF D F
  all_goals
   exact AK (Cy C C) (λw f d=>⟨(),f,(by rw[J]),tQ,d.exm,(by rw[J];exact d.res),tQ⟩)

theorem OC(w:wO)(f:Fq)(G:Vl w f)(sb mb:Nat)(s:BT)(fr pr:Int)(J:B9 222 sb mb s fr pr w f)(K:f sb=0∧f mb=0)(D:sb≠mb)  (L:0≤fr∧fr<1000000000000) :
  AO prog 99 #[pB sb] w (CY (α:=Unit) (λ_=>tV (.var (fr+1)) none 0) (λ_=>True) (MO sb mb) (λ_=>B9 222 sb mb s (fr+1) pr) (λ_=>[]) w f):=by
 exact Hm (X:=XS 222 sb mb s fr pr w f) (H:=[]) (R:=[]) (B:=[]) (Fs:=[]) (f:=f) func99 C C C (mD G J K tQ tQ)<|Aa 20 (λb1=>λ_=>Cz C C (λw f d=>Ai C Gu d.res.1 C)<|Aa 3 (aI ⟨oM,oM⟩<|λ_=>lZ (b:=sb) (I':=B9 222 sb mb s (fr+1) pr) C C C C Gu C C C (.inl C) (λw f h=>h.1) (λw f W h d F O=>⟨O,let ⟨_,es,Q,U⟩:=h;⟨es,Q.heap (F.block mb (λe=>D e.symm)),FQ.mono (F.fle (d.mi sb (.inl C)).2.1) s es U⟩⟩) (B9.stab (.inl C) (.inr C))<|Aa 7 (λ_=>Cz C C (λw f d=>Ai C Gu d.res.1 C)<|B3 C C (eC GL C C) (λw f d=>D8 w f d.vl (fr+1))<|Af 4 [0] (y<|λ_=>AK (λw f d=>A3 C (Ac C AH d.k0 C)) (λw f d=>⟨(),f,C,tQ,d.exm,d.res,tQ⟩)))))
theorem Zd(k:Nat)(ih:∀j,j<k→rK prog 134 222 j)(w:wO)(f:Fq)(hv:Vl w f)(sb mb:Nat)(s:BT)(fr:Int)(hS:B9 222 sb mb s fr (10000-(k:Int)) w f)(hf:f sb=0∧f mb=0)(hne:sb≠mb)(hw:IP s)(hk:k≤10000)(t u:T1)(a:oA)(c:Nat)(a2:oA)(c2:Nat)(W:t.bnd)(Z:u.bnd)(hT:Ae w f t.kids a c)(hU:Ae w f u.kids a2 c2) :
  AO prog 134 #[pB sb,tV t a c,tV u a2 c2] w (CY (α:=Int×BT×Int) (λx=>iV x.1) (λx=>(∀z,G9 k s t.one u.one=.ok z→x.1=0∧x.2.1=z.2∧x.2.2=10000-(z.1:Int)∧IP z.2)∧∀e,G9 k s t.one u.one=.error e→x.1=e∧e≠0) (MO sb mb) (λx=>B9 222 sb mb x.2.1 fr x.2.2) (λ_=>[]) w f):=by
 have hkt:=(C2 hw W).1;have hku:=(C2 hw Z).1;refine Hm (X:=XS 222 sb mb s fr (10000-(k:Int)) w f) (H:=[]) (R:=[]) (B:=[]) (Fs:=[λw f=>Ae w f t.kids a c,λw f=>Ae w f u.kids a2 c2]) (f:=f) func134 C C C (mD hv hS hf ⟨hT,hU,tQ⟩ ⟨Ae.mono,Ae.mono,tQ⟩)<|Aa 13 (λb1=>λb2=>λ_=>Cz C C (λw f d=>Ai C Gu d.res.1 C)<|Aa 3 (λ_=>?_))
 ·
  refine A6 13 C C (λh1=>?_) (λh1=>?_);refine Aa 8 (λ_=>?_);obtain rfl:k=0:=by have G:=beq_iff_eq.1 h1;omega
  have D:=jH s t u;exact AK (Cy C C) (λw f d=>⟨(4,s,_),f,C,⟨λz h=>(by rw[D] at h;cases h),λe h=>(by rw[D] at h;cases h;exact⟨C,dC⟩)⟩,d.exm,d.res,tQ⟩);refine Aa 4 (λ_=>?_);obtain⟨k2,rfl⟩:∃q,k=q+1:=⟨k-1,by have G:=h1;have:¬(10000-(k:Int))=10000:=(by simpa using G);omega⟩;refine Aa 4 (λ_=>Cz C C (λw f d=>Ai C Gu d.res.1 C)<|Aa 3 (aI ⟨oM,oM⟩<|λ_=>lZ (b:=sb) (I':=B9 222 sb mb s fr (10000-(k2:Int))) C C C C Gu C C C (.inl C) (λw f h=>h.1) (λw f w2 h d hC hb=>(by rw[show (10000-((k2+1:Nat):Int)+1)=10000-(k2:Int) by omega] at hb;exact⟨hb,let ⟨_,es,h2,h3⟩:=h;⟨es,h2.heap (hC.block mb (λe=>hne e.symm)),FQ.mono (hC.fle (d.mi sb (.inl C)).2.1) s es h3⟩⟩)) (B9.stab (.inl C) (.inr C))<|Aa 3 (λ_=>?_)));refine RP (α:=oA×Nat×oA×Nat) (λx=>True) (λx=>(E3 0 (pB sb) 4 (pB b1) 5 (pB b2))) (λx=>⟨MO sb mb,MO sb mb,B9 222 sb mb s fr (10000-(k2:Int)),w,f⟩) (λx=>[⟨b2,tC (An s u) x.2.2.1 x.2.2.2,123,true⟩,⟨b1,tC (An s t) x.1 x.2.1,123,true⟩]) (λx=>[]) (λx=>[]) (λx=>[λw f=>Ae w f (An s t).kids x.1 x.2.1,λw f=>Ae w f (An s u).kids x.2.2.1 x.2.2.2]) ?_ ?_;refine Ca [] Aj (.rd 0 (.rd 3 (.br 1 (.br 2 (.br 4 (.br 5 (.br 6 (.br 7 .fin .fin) .fin) .fin) .fin) (.br 4 (.br 2 (.br 5 (.br 6 (.br 7 .fin .fin) .fin) .fin) .fin) .fin)) (.br 4 (.br 1 (.br 2 (.br 5 (.br 6 (.br 7 .fin .fin) .fin) .fin) .fin) .fin) .fin)))) C kR<|AN 2 (λ_=>Bj C ?_ ?_);refine Af 2 [1] (y<|λ_=>Am [] C<|Bj C ?_ ?_);refine BV C C (eC I1 C C) (λw f d=>Fv w f d.vl sb mb s fr (10000-(k2:Int)) d.res hw t a c W d.f0) (λx=>⟨Ae.mono,tQ⟩) ?_;rintro⟨ha,hc⟩ -;refine Aa 1 (λ_=>Am [] C<|Ah C<|Af 2 [0] (y<|λ_=>?_))
  rotate_left
  refine Ah C<|Af 2 [0] (y<|λ_=>Am [] C<|Ah C<|BV C C (eC I1 C C) (λw f d=>Fv w f d.vl sb mb s fr (10000-(k2:Int)) d.res hw t a c W d.f0) (λx=>⟨Ae.mono,tQ⟩) ?_);rintro⟨ha,hc⟩ -;refine Aa 1 (λ_=>?_)
  rotate_left
  refine Ah C<|Af 2 [0] (y<|λ_=>Am [] C<|Ah C<|Af 2 [1] (y<|λ_=>Am [] C<|Ah C<|BV C C (eC I1 C C) (λw f d=>Fv w f d.vl sb mb s fr (10000-(k2:Int)) d.res hw t a c W d.f0) (λx=>⟨Ae.mono,tQ⟩) ?_));rintro⟨ha,hc⟩ -;refine Aa 1 (λ_=>?_)
  rotate_left
  rintro⟨ha,hc,ga,gc⟩ -;dsimp only;refine Af 9 [1] (y<|λ_=>?_)
  ·
   refine A6 31 C C (λh2=>?_) (λh2=>?_);refine Af 5 [0] (y<|λ_=>A6 36 C C (λh3=>?_) (λh3=>?_));refine Af 9 [1,0] (y<|y<|λ_=>A6 27 C C (λh4=>?_) (λh4=>?_));refine Aa 9 (λ_=>?_);obtain⟨n,K⟩:=Ec h2;obtain⟨m,hm⟩:=Ec h3;have D:G9 (k2+1) s t.one u.one=.ok (k2,s):=by rw[K1,K,hm];simp only[KS];rw[if_pos (by have G:=h4;rw[K,hm] at G;exact G)];cases k2 <;> rfl
   exact AK (Cy C C) (λw f d=>⟨(0,s,_),f,C,⟨λz h=>(by rw[D] at h;cases h;exact⟨C,C,C,hw⟩),λe h=>(by rw[D] at h;cases h)⟩,d.exm,d.res,tQ⟩);refine Af 9 [1] (y<|λ_=>mkn 43 true C C h2<|Af 7 [1,0] (y<|y<|λ_=>?_));obtain⟨n,K⟩:=Ec h2;refine JK (XX:=λ_ _=>False) C C (eC Q8 C C) (λw f d=>(LJ w f d.vl sb mb s fr (10000-(k2:Int)) d.res ⟨(d.mi sb (.inl C)).2.1,(d.mi mb (.inr C)).2.1⟩ hne hw (An s t).num (by rw[K];exact G5 hw K) (An s u) ga gc (C2 hw Z) d.f1).retP) (λ_=>(B9.stab (.inl C) (.inr C))) (λ_=>trivial) (λ_ _ _ _ _ h=>h.elim) ?_;rintro⟨⟩ -;refine Aa 6 (λ_=>?_)
   have D:G9 (k2+1) s t.one u.one=(match C8 s n (An s u) with|.error e=>.error e|.ok b=>.ok (k2,b)):=by
    rw[K1,K]
    cases hm:(An s u) with
    |var m=>simp only[KS];rw[if_neg (by have G:=h4;rw[K,hm] at G;simp only[T1.num] at G;rw[G];simp)];cases C8 s n (.var m) with|error e=>rfl|ok b=>cases k2 <;> rfl
    |con ty kb=>simp only[KS];cases C8 s n (.con ty kb) with|error e=>rfl|ok b=>cases k2 <;> rfl
   rotate_left
   refine Af 18 [1] (y<|λ_=>mkn 43 true C C h2<|Af 7 [1,0] (y<|y<|λ_=>?_));obtain⟨n,K⟩:=Ec h2;refine JK (XX:=λ_ _=>False) C C (eC Q8 C C) (λw f d=>(LJ w f d.vl sb mb s fr (10000-(k2:Int)) d.res ⟨(d.mi sb (.inl C)).2.1,(d.mi mb (.inr C)).2.1⟩ hne hw (An s t).num (by rw[K];exact G5 hw K) (An s u) ga gc (C2 hw Z) d.f1).retP) (λ_=>(B9.stab (.inl C) (.inr C))) (λ_=>trivial) (λ_ _ _ _ _ h=>h.elim) ?_;rintro⟨⟩ -;refine Aa 6 (λ_=>?_)
   have D:G9 (k2+1) s t.one u.one=(match C8 s n (An s u) with|.error e=>.error e|.ok b=>.ok (k2,b)):=by
    rw[K1,K]
    cases hm:(An s u) with
    |var m=>simp only[KS];rw[if_neg (by have G:=h3;rw[hm] at G;cases G)];cases C8 s n (.var m) with|error e=>rfl|ok b=>cases k2 <;> rfl
    |con ty kb=>simp only[KS];cases C8 s n (.con ty kb) with|error e=>rfl|ok b=>cases k2 <;> rfl
   rotate_left
   refine Af 23 [1] (y<|λ_=>mkn 43 false C C h2<|Af 9 [0] (y<|λ_=>?_))
   ·
    refine A6 52 C C (λh3=>?_) (λh3=>?_);refine Af 7 [0,1] (y<|y<|λ_=>?_);obtain⟨n,K⟩:=Ec h3;refine JK (XX:=λ_ _=>False) C C (eC Q8 C C) (λw f d=>(LJ w f d.vl sb mb s fr (10000-(k2:Int)) d.res ⟨(d.mi sb (.inl C)).2.1,(d.mi mb (.inr C)).2.1⟩ hne hw (An s u).num (by rw[K];exact G5 hw K) (An s t) ha hc (C2 hw W) d.f0).retP) (λ_=>(B9.stab (.inl C) (.inr C))) (λ_=>trivial) (λ_ _ _ _ _ h=>h.elim) ?_;rintro⟨⟩ -;refine Aa 6 (λ_=>?_)
    have D:G9 (k2+1) s t.one u.one=(match C8 s n (An s t) with|.error e=>.error e|.ok b=>.ok (k2,b)):=by
     rw[K1,K];obtain⟨tx,ka,J⟩:=EH h2;rw[J];simp only[KS]
     cases C8 s n (.con tx ka) with|error e=>rfl|ok b=>cases k2 <;> rfl
    have hnum:(An s u).num=n:=by rw[K];rfl
    have F:Kr s (An s u).num (An s t)=(match C8 s n (An s t) with|.error e=>(e,s)|.ok b=>(0,b)):=by rw[hnum];rfl
    cases L:C8 s n (An s t) with
    |error er=>rw[L] at D F;exact AK (Cy C C) (λw f d=>⟨(er,s,_),f,(by rw[F]),⟨λz h=>(by rw[D] at h;cases h),λe h=>(by rw[D] at h;cases h;exact⟨C,WR L⟩)⟩,d.exm,(by have U:=d.res;rw[F] at U;exact U),tQ⟩)
    |ok b9=>rw[L] at D F;exact AK (Cy C C) (λw f d=>⟨(0,b9,_),f,(by rw[F]),⟨λz h=>(by rw[D] at h;cases h;exact⟨C,C,C,Xq hw (G5 hw K) (PQ hw _) (C2 hw W) L⟩),λe h=>(by rw[D] at h;cases h)⟩,d.exm,(by have U:=d.res;rw[F] at U;exact U),tQ⟩)
    refine Af 9 [1,0] (y<|y<|λ_=>A6 67 C C (λh4=>?_) (λh4=>?_));refine Aa 20 (λ_=>?_);obtain⟨tx,ka,J⟩:=EH h2;obtain⟨ty,kb,O⟩:=EH h3;have D:G9 (k2+1) s t.one u.one=.error 11:=by rw[K1,J,O];simp only[KS];rw[if_pos (by have h8:=h4;rw[J,O] at h8;simp only[T1.tx] at h8;rw[h8];rfl)]
    rotate_left
    refine Af 11 [1,0] (y<|y<|λ_=>A6 61 C C (λh5=>?_) (λh5=>?_));refine Aa 9 (λ_=>?_);obtain⟨tx,ka,J⟩:=EH h2;obtain⟨ty,kb,O⟩:=EH h3;have D:G9 (k2+1) s t.one u.one=.error 11:=by rw[K1,J,O];simp only[KS];rw[if_pos (by have G:=h5;rw[J,O] at G;simp only[T1.kids] at G;rw[G];simp)]
    rotate_left
    refine Aa 6 (λ_=>?_);obtain⟨tx,ka,J⟩:=EH h2;obtain⟨ty,kb,O⟩:=EH h3;have hlen:(An s t).kids.len=(An s u).kids.len:=by have G:(((An s t).kids.len:Int) != (An s u).kids.len)=false:=h5;simp at G;omega
    have D:G9 (k2+1) s t.one u.one=G9 k2 s (An s t).kids (An s u).kids:=by rw[K1];rw[J,O];simp only[KS,T1.kids];rw[if_neg (by have h8:=h4;have G:=h5;rw[J,O] at h8 G;simp only[T1.tx,T1.kids] at h8 G;rw[h8,G];simp),Ty.app_nil,Ty.app_nil]
    refine Af 8 [1] (y<|λ_=>?_);refine D6 (α:=Nat×Ty×Ty×Nat×BT) (λx=>x.2.1.len) (λx=>x.1+x.2.1.len=(An s t).kids.len∧x.2.2.1.len=x.2.1.len∧G9 k2 s (An s t).kids (An s u).kids=G9 x.2.2.2.1 x.2.2.2.2 x.2.1 x.2.2.1∧x.2.2.2.1≤k2∧IP x.2.2.2.2∧x.2.1.bnd∧x.2.2.1.bnd) (λx=>(E5 0 (pB sb) 4 (pB b1) 5 (pB b2) 78 (iV ((An s t).kids.len:Int)) 79 (iV (x.1:Int)))) (λx=>⟨MO sb mb,MO sb mb,B9 222 sb mb x.2.2.2.2 fr (10000-(x.2.2.2.1:Int)),w,f⟩) (λx=>[⟨b2,tC (An s u) ga gc,123,true⟩,⟨b1,tC (An s t) ha hc,123,true⟩]) (λx=>[]) (λx=>[]) (λx=>[λw f=>Bn w f ha x.1 x.2.1,λw f=>Bn w f ga x.1 x.2.2.1]) (0,(An s t).kids,(An s u).kids,k2,s) ⟨by simp,hlen.symm,C,Nat.le_refl _,hw,(C2 hw W).2,(C2 hw Z).2⟩ lE (λw f d=>d.more (B':=[]) (F':=[λw f=>Bn w f ha 0 (An s t).kids,λw f=>Bn w f ga 0 (An s u).kids]) nE (AA.mem ⟨Ae.at d.f0,Ae.at d.f1,tQ⟩) (Ap.mem ⟨Bn.mono,Bn.mono,tQ⟩) |>.less (H':=[⟨b2,tC (An s u) ga gc,123,true⟩,⟨b1,tC (An s t) ha hc,123,true⟩]) (R':=[]) (B':=[]) (F':=[λw f=>Bn w f ha 0 (An s t).kids,λw f=>Bn w f ga 0 (An s u).kids]) sR sR nE (mR [0,1])) ?_;rintro⟨i,r,q,j,s2⟩ ⟨hi,hq,Y,hjk,hw2,hrb,hqb⟩;dsimp only at hi hq Y hjk hw2 hrb hqb ⊢;refine Aa 6 (λ_=>A6 80 C C (λh6=>?_) (λh6=>?_));refine Aa 12 (λ_=>?_);have hil:i<(An s t).kids.len:=by have:=dT h6;omega
    obtain⟨t2,r,rfl⟩:=Ty.cases1 r oM;rw[T1.len_cons] at hi hq;obtain⟨u2,q,rfl⟩:=Ty.cases1 q oM;rw[T1.len_cons] at hq;refine Te 0 C ?_;rintro⟨eb,eo,ea,ec⟩ rfl;refine Te 3 C ?_;rintro⟨pb,po,pa,pc⟩ rfl;refine Ca [0,1] Aj (rd [0,1,2,3,4,5,6,7,8,9,10] (.br 11 (.rd 12 .fin) .fin)) C kR<|Bh 11 [1,101,0,0,100,0] (y<|aI oM<|y2<|y<|aI oM<|y2<|λ_=>Ah C<|JK (XX:=λ_ _=>False) C C (eC Xv C C) (λw f d=>(ih j oM w f d.vl sb mb s2 fr d.res ⟨(d.mi sb (.inl C)).2.1,(d.mi mb (.inr C)).2.1⟩ hne hw2 oM t2 u2 ea ec pa pc (T1.bnd_cons.1 hrb).1 (T1.bnd_cons.1 hqb).1 d.f2 d.f0).retP) (λ_=>(B9.stab (.inl C) (.inr C))) (λ_=>trivial) (λ_ _ _ _ _ h=>h.elim) ?_);rintro⟨cd,s3,pr3⟩ ⟨hok,herr⟩;refine Aa 1 (λ_=>Am [0,1] C<|AN 1 (λ_=>Bp<|Aa 7 (λ_=>A6 95 C C (λU=>?_) (λU=>?_))));obtain⟨er,her⟩:∃e,G9 j s2 t2.one u2.one=.error e:=by cases hx:G9 j s2 t2.one u2.one with|error e=>exact⟨e,C⟩|ok z=>have g9:=(hok z hx).1;rw[g9] at U;cases U
    refine Aa 10 (λ_=>So<|Aa 2 (λ_=>?_));have Q:G9 (k2+1) s t.one u.one=.error er:=by rw[D,Y,S2 _ _ _ _ _ _ (by omega),her];rfl
    exact AK (Cy C C) (λw f d=>⟨(cd,s3,pr3),f,C,⟨λz h=>(by rw[Q] at h;cases h),λe h=>(by rw[Q] at h;cases h;exact herr _ her)⟩,d.exm,d.res,tQ⟩);obtain⟨z,hz⟩:∃z,G9 j s2 t2.one u2.one=.ok z:=by cases hx:G9 j s2 t2.one u2.one with|ok z=>exact⟨z,C⟩|error e=>have g9:=herr e hx;have g8:cd=0:=(by simpa using U);exact absurd (g9.1.symm.trans g8) g9.2
    obtain⟨hz1,hz2,hz3,hz4⟩:=hok z hz;exact Aa 8 (aI ⟨oM,oM⟩<|λ_=>C0 ((i+1,r,q,z.1,z.2)) (show r.len<(t2.cons r).len by rw[T1.len_cons];omega) ⟨show i+1+r.len=_ by omega,show q.len=r.len by omega,show G9 k2 s _ _=G9 z.1 z.2 r q by rw[Y,S2 _ _ _ _ _ _ (by omega),hz];rfl,show z.1≤k2 by have:=un_le _ _ _ _ _ hz;omega,hz4,(T1.bnd_cons.1 hrb).2,(T1.bnd_cons.1 hqb).2⟩ lE (λw f d=>⟨_,by have hM2:=d.less (H':=[⟨b2,tC (An s u) (some ⟨pb,po,none⟩) gc,123,true⟩,⟨b1,tC (An s t) (some ⟨eb,eo,none⟩) hc,123,true⟩]) (R':=[]) (B':=[]) (F':=[λw f=>Bn w f (some ⟨eb,eo,none⟩) (i+1) r,λw f=>Bn w f (some ⟨pb,po,none⟩) (i+1) q]) sR sR nE (mR [3,1]);rw[hz2,hz3] at hM2;exact hM2⟩));refine Aa 3 (λ_=>Dl<|Aa 8 (λ_=>?_));obtain rfl:r=.nil:=Ty.len0 (by have:=dF h6;omega);have Q:G9 (k2+1) s t.one u.one=.ok (j,s2):=by rw[D,Y];cases j <;> rfl
    exact AK (Cy C C) (λw f d=>⟨(0,s2,_),f,C,⟨λz h=>(by rw[Q] at h;cases h;exact⟨C,C,C,hw2⟩),λe h=>(by rw[Q] at h;cases h)⟩,d.exm,d.res,tQ⟩)
    all_goals
     exact AK (Cy C C) (λw f d=>⟨(11,s,_),f,C,⟨λz h=>(by rw[D] at h;cases h),λe h=>(by rw[D] at h;cases h;exact⟨C,dC⟩)⟩,d.exm,d.res,tQ⟩)
   all_goals
    have hnum:(An s t).num=n:=by rw[K];rfl
    have F:Kr s (An s t).num (An s u)=(match C8 s n (An s u) with|.error e=>(e,s)|.ok b=>(0,b)):=by rw[hnum];rfl
    cases L:C8 s n (An s u) with
    |error er=>rw[L] at D F;exact AK (Cy C C) (λw f d=>⟨(er,s,_),f,(by rw[F]),⟨λz h=>(by rw[D] at h;cases h),λe h=>(by rw[D] at h;cases h;exact⟨C,WR L⟩)⟩,d.exm,(by have U:=d.res;rw[F] at U;exact U),tQ⟩)
    |ok b9=>rw[L] at D F;exact AK (Cy C C) (λw f d=>⟨(0,b9,_),f,(by rw[F]),⟨λz h=>(by rw[D] at h;cases h;exact⟨C,C,C,Xq hw (G5 hw K) (PQ hw _) (C2 hw Z) L⟩),λe h=>(by rw[D] at h;cases h)⟩,d.exm,(by have U:=d.res;rw[F] at U;exact U),tQ⟩)
  all_goals
   refine Am [] C<|Ah C<|BV C C (eC I1 C C) (λw f d=>Fv w f d.vl sb mb s fr (10000-(k2:Int)) d.res hw u a2 c2 Z d.f2) (λx=>⟨Ae.mono,tQ⟩) ?_;rintro⟨ga,gc⟩ -;exact Aa 1 (λ_=>Am [] C<|Ah C<|Af 2 [1] (y<|λ_=>Am [] C<|Ah C<|Af 2 [0] (y<|λ_=>Am [] C<|Bp<|Ph (ha,hc,ga,gc) tQ lE (λw f d=>⟨f,d.less sR sR (λ_ h=>h) (mR [1,0])⟩))))

theorem Y8(k:Nat):rK prog 134 222 k:=Nat.strongRecOn k λk F w f G sb mb s fr J K d hw L t u a c a2 c2 h D O Q=>Zd k F w f G sb mb s fr J K d hw L t u a c a2 c2 h D O Q
theorem VZ(w:wO)(f:Fq)(U:Vl w f)(sb mb:Nat)(s:BT)(fr pr:Int)(W:B9 222 sb mb s fr pr w f)(Y:f sb=0∧f mb=0)(G:sb≠mb)(hw:IP s)(t u:T1)(a:oA)(c:Nat)(a2:oA)(c2:Nat)(J:t.bnd)(K:u.bnd)(Z:Ae w f t.kids a c)(hU:Ae w f u.kids a2 c2) :
  AO prog 92 #[pB sb,tV t a c,tV u a2 c2] w (CY (α:=Int×BT×Int) (λx=>iV x.1) (λx=>(∀b,FU s t u=.ok b→x.1=0∧x.2.1=b∧IP b)∧∀e,FU s t u=.error e→x.1=e∧e≠0) (MO sb mb) (λx=>B9 222 sb mb x.2.1 fr x.2.2) (λ_=>[]) w f):=by
 refine Hm (X:=XS 222 sb mb s fr pr w f) (H:=[]) (R:=[]) (B:=[]) (Fs:=[λw f=>Ae w f t.kids a c,λw f=>Ae w f u.kids a2 c2]) (f:=f) func92 C C C (mD U W Y ⟨Z,hU,tQ⟩ ⟨Ae.mono,Ae.mono,tQ⟩)<|Aa 22 (λb1=>λb2=>λ_=>lZ (b:=sb) (I':=B9 222 sb mb s fr (10000-((10000:Nat):Int))) C C C C Gu C C C (.inl C) (λw f h=>h.1) (λw f w2 h d Q hb=>⟨hb,let ⟨_,es,h2,h3⟩:=h;⟨es,h2.heap (Q.block mb (λe=>G e.symm)),FQ.mono (Q.fle (d.mi sb (.inl C)).2.1) s es h3⟩⟩) (B9.stab (.inl C) (.inr C))<|Aa 3 (λ_=>Ca [0,1] Aj (rd [0,1,3] (.br 2 (.br 4 (.br 5 (.rd 6 .fin) .fin) .fin) .fin)) C kR<|Bh 3 [1,0] (y<|y<|λ_=>Ah C<|BV C C (eC Np C C) (λw f d=>OA w f d.vl t a c J d.f0) (λx=>⟨Ae.mono,tQ⟩) ?_)));rintro⟨ha,hc⟩ -;refine Aa 1 (λ_=>Am [0,1] C<|Ah C<|BV C C (eC Np C C) (λw f d=>OA w f d.vl u a2 c2 K d.f2) (λx=>⟨Ae.mono,tQ⟩) ?_);rintro⟨ga,gc⟩ -;refine Aa 1 (λ_=>Am [0,1] C<|Ah C<|JK (XX:=λ_ _=>False) C C (eC Xv C C) (λw f d=>(Y8 10000 w f d.vl sb mb s fr d.res ⟨(d.mi sb (.inl C)).2.1,(d.mi mb (.inr C)).2.1⟩ G hw (Nat.le_refl _) t u ha hc ga gc J K d.f1 d.f0).retP) (λ_=>(B9.stab (.inl C) (.inr C))) (λ_=>trivial) (λ_ _ _ _ _ h=>h.elim) ?_);rintro⟨cd,s3,O⟩ ⟨F,L⟩;exact Aa 1 (λ_=>Am [0,1] C<|AN 1 (λ_=>Bp<|Aa 2 (λ_=>AK (Cy C C) (λw f d=>⟨(cd,s3,O),f,C,⟨λb h=>(by rw[FU,Ti] at h;cases D:G9 10000 s t.one u.one with|error e=>rw[D] at h;cases h|ok z=>rw[D] at h;cases h;exact⟨(F z D).1,(F z D).2.1,(F z D).2.2.2⟩),λe h=>(by rw[FU,Ti] at h;cases D:G9 10000 s t.one u.one with|error e=>rw[D] at h;cases h;exact L _ D|ok z=>rw[D] at h;cases h)⟩,d.exm,d.res,tQ⟩))))
theorem Tv(w:wO)(f:Fq)(h:Vl w f)  :
  AO prog 94 #[.slice none 0 0] w (AF (α:=Unit) (λ_=>.slice none 0 0) (λ_=>True) (λ_=>[]) w f):=by
 refine Dq [] func94 C C C (AR h tQ tQ)<|Aa 12 (λ_=>A6 4 C C (λd=>?_) (λd=>?_));exact Aa 8 (λ_=>AK (Cy C C) (λw f D=>⟨(),f,C,tQ,D.exm,tQ⟩))
 cases d
theorem Br(w:wO)(f:Fq)(h:Vl w f)(tx:lU) :
  AO prog 42 #[S tx,.slice none 0 0] w (AF (α:=Unit) (λ_=>tV (.con tx .nil) none 0) (λ_=>True) (λ_=>[]) w f):=by
 exact Dq [] func42 C C C (AR h tQ tQ)<|Aa 9 (λb1=>λ_=>B3 C C (eC eD C C) (λw f d=>Tv w f d.vl)<|Af 5 [0] (y<|λ_=>VS (λw f d=>A3 C (Ac C AH d.k0 C)) C))
theorem YK(k:Nat)(ih:∀j,j<k→qY prog 145 222 j)(w:wO)(f:Fq)(hv:Vl w f)(sb mb:Nat)(s:BT)(fr pr:Int)(hS:B9 222 sb mb s fr pr w f)(hw:IP s)(t:T1)(a:oA)(c jj:Nat)(hb:t.bnd)(hT:Ae w f t.kids a c)(F:B4 s k t.one=some jj) :
  AO prog 145 #[pB sb,tV t a c] w (AF (α:=oA×Nat) (λx=>tV (Bg s k t.one).hd x.1 x.2) (λ_=>True) (λx=>[λw f=>Ae w f (Bg s k t.one).hd.kids x.1 x.2]) w f):=by
 have hkb:=(C2 hw hb).1;refine Dq [λw f=>Ae w f t.kids a c] func145 C C C (AR hv ⟨hT,tQ⟩ ⟨Ae.mono,tQ⟩)<|Af 10 [1] (λb1=>λb2=>y<|λ_=>BV C C (eC I1 C C) (λw f d=>Fv w f d.vl sb mb s fr pr (B9.keep hS d.exm d.ent (λh=>h) (λh=>h)) hw t a c hb d.f0) (λx=>⟨Ae.mono,tQ⟩) ?_);rintro⟨Y,hc⟩ -;refine Af 5 [1] (y<|λ_=>?_);obtain⟨k2,rfl⟩:∃q,k=q+1:=by cases k with|zero=>rw[Lb] at F;cases F|succ q=>exact⟨q,C⟩
 rw[JS] at F;refine Af 6 [1] (y<|λ_=>?_)
 ·
  refine A6 13 C C (λh1=>?_) (λh1=>?_);refine Af 5 [1] (y<|λ_=>B3 C C (eC GL C C) (λw f d=>D8 w f d.vl (An s t).num)<|Af 5 [0] (y<|λ_=>?_));obtain⟨n,hn⟩:=Ec h1;have D:(Bg s (k2+1) t.one).hd=.var n:=by rw[O0,hn]
  exact AK (λw f d=>A3 C (Ac C AH d.k0 C)) (λw f d=>⟨(none,0),f,(by rw[D,hn];rfl),tQ,d.exm,⟨by rw[D];exact Ae.nil _ _ _ _,tQ⟩⟩);refine Af 7 [1] (y<|λ_=>B3 C C (eC Bz C C) (λw f d=>Br w f d.vl (An s t).tx)<|Af 14 [0,2] (λb3=>y<|y<|λ_=>KR 123 4 ?_));refine D6 (α:=Nat×Ty×Ty×lV×oA×Nat×Nat) (λx=>x.2.1.len) (λx=>x.1+x.2.1.len=(An s t).kids.len∧x.2.2.1.len=x.1∧Bg s k2 (An s t).kids=x.2.2.1.app (Bg s x.2.2.2.2.2.2 x.2.1)∧B4 s x.2.2.2.2.2.2 x.2.1=some jj∧x.2.2.2.2.2.2≤k2∧x.2.1.bnd) (λx=>(E7 0 (pB sb) 3 (pB b1) 4 (pB b2) 5 (pB b3) 21 (.slice Y (An s t).kids.len hc) 22 (iV ((An s t).kids.len:Int)) 23 (iV (x.1:Int)))) (λx=>X0 w f) (λx=>[⟨b3,[iV 1,iV 0,S (An s t).tx,.slice x.2.2.2.2.1 x.1 x.2.2.2.2.2.1],123,true⟩,⟨b2,zT,123,true⟩,⟨b1,tC (An s t) Y hc,123,true⟩]) (λx=>[⟨123,4,x.2.2.2.2.1,x.2.2.2.2.2.1,x.1,x.2.2.2.1⟩]) (λx=>[]) (λx=>[λw f=>Bn w f Y x.1 x.2.1,λw f=>AU w f x.2.2.1 x.2.2.2.1]) (0,(An s t).kids,.nil,[],none,0,k2) ⟨by simp,C,C,F,Nat.le_refl _,(C2 hw hb).2⟩ lE (λw f d=>d.more (B':=[]) (F':=[λw f=>Bn w f Y 0 (An s t).kids,λw f=>AU w f .nil []]) nE (AA.mem ⟨Ae.at d.f0,C,tQ⟩) (Ap.mem ⟨Bn.mono,AU.mono,tQ⟩) |>.less sR sR nE (mR [0,1])) ?_;rintro⟨i,r,Q,xs,ra,rc,j⟩ ⟨hi,J,Z,G,hjk,K⟩;dsimp only at hi J Z G hjk K ⊢;refine Aa 6 (λ_=>A6 24 C C (λh2=>?_) (λh2=>?_));refine Aa 6 (λ_=>?_);have hil:i<(An s t).kids.len:=by have:=dT h2;omega
  obtain⟨t2,r,rfl⟩:=Ty.cases1 r oM;rw[T1.len_cons] at hi;obtain⟨j2,L,U⟩:∃j2,B4 s j t2.one=some j2∧B4 s j2 r=some jj:=by rw[J5] at G;cases hx:B4 s j t2.one with|none=>rw[hx] at G;cases G|some q=>rw[hx] at G;exact⟨q,C,G⟩
  refine Te 0 C ?_;rintro⟨eb,eo,ka,kc⟩ rfl;refine Af 7 [100,0,0] (aI oM<|y2<|λb4=>y<|λ_=>Ca [0,2,3] Aj (rd [0,2,3] (.br 1 (.br 4 (.br 5 (.br 6 (.rd 7 (.br 8 .fin .fin)) .fin) .fin) .fin) (.br 4 (.br 1 (.br 5 (.br 6 (.rd 7 (.br 8 .fin .fin)) .fin) .fin) (.br 5 (.br 1 (.br 6 (.rd 7 (.br 8 .fin .fin)) .fin) .fin) .fin)) .fin))) C kR<|Bh 3 [0] (y<|λ_=>Bj C ?_ ?_));refine Af 2 [1] (y<|λ_=>Am [0,2,3] C<|Ah C<|BV C C (eC RO C C) (λw f d=>ih j oM w f d.vl sb mb s fr pr (B9.keep hS d.exm d.ent (λh=>h) (λh=>h)) hw t2 ka kc j2 (T1.bnd_cons.1 K).1 d.f0 L) (λx=>⟨Ae.mono,tQ⟩) ?_);rintro⟨a2,c2⟩ -;refine Aa 1 (λ_=>Am [0,2,3] C<|Ah C<|Aa 2 (λb5=>λ_=>?_))
  rotate_left
  refine Ah C<|BV C C (eC RO C C) (λw f d=>ih j oM w f d.vl sb mb s fr pr (B9.keep hS d.exm d.ent (λh=>h) (λh=>h)) hw t2 ka kc j2 (T1.bnd_cons.1 K).1 d.f0 L) (λx=>⟨Ae.mono,tQ⟩) ?_;rintro⟨a2,c2⟩ -;refine Aa 1 (λ_=>Am [0,2,3] C<|Bj C ?_ ?_);refine Af 2 [1] (y<|λ_=>Am [0,2,3] C<|Ah C<|Aa 2 (λb5=>λ_=>?_))
  rotate_left
  refine Ah C<|Aa 2 (λb5=>λ_=>Am [1,3,4] C<|Ah C<|Af 2 [2] (y<|λ_=>?_))
  rotate_left
  refine Aa 3 (λ_=>Dl<|Af 9 [0,1] (y<|y<|λ_=>?_));obtain rfl:r=.nil:=Ty.len0 (by have:=dF h2;omega);rw[GN,Ty.app_nil] at Z;obtain⟨tx,ka,O⟩:=EH h1;have D:(Bg s (k2+1) t.one).hd=.con tx Q:=by rw[O0,O,← Z,O];rfl
  have W:(An s t).tx=tx:=by rw[O];rfl
  rcases Nat.eq_zero_or_pos Q.len with h0|h0
  · exact AK (λw f d=>A3 C (Ac C AH d.k1 C)) (λw f d=>⟨(ra,rc),f,(by rw[D,W,← J];rfl),tQ,d.exm,⟨by rw[D];obtain rfl:=Ty.len0 h0;exact Ae.nil _ _ _ _,tQ⟩⟩)
  · exact AK (λw f d=>A3 C (Ac C AH d.k1 C)) (λw f d=>let ⟨f2,hM2,hF⟩:=OY d d.f1 h0;⟨(ra,rc),f2,(by rw[D,W,← J];rfl),tQ,hM2.exm,⟨by rw[D];exact hF,tQ⟩⟩)
  all_goals
   refine Am [1,3,4] C<|Ah C<|BW 0 0 C C Cu C C C C C C C C (λ_ _=>C) oM oM λra2 rc2=>Aa 1 (λ_=>Am [1,3,4] C<|AN 1 (λ_=>Ah C<|Af 2 [2] (y<|λ_=>Am [1,3,4] C<|Bp ?_)));exact Aa 6 (aI ⟨oM,oM⟩<|λ_=>C0 ((i+1,r,Q.snoc (Bg s j t2.one).hd,xs++tC (Bg s j t2.one).hd a2 c2,ra2,rc2,j2)) (show r.len<(t2.cons r).len by rw[T1.len_cons];omega) ⟨show i+1+r.len=_ by omega,show (Q.snoc _).len=i+1 by rw[Ty.len_snoc,J],show Bg s k2 _=(Q.snoc _).app (Bg s j2 r) by rw[Z,Yc L U,Ty.snoc_app],U,show j2≤k2 by have:=F4 s _ _ _ L;omega,(T1.bnd_cons.1 K).2⟩ lE (λw f d=>⟨_,(d.more (B':=[]) (F':=[λw f=>AU w f (Q.snoc (Bg s j t2.one).hd) (xs++tC (Bg s j t2.one).hd a2 c2)]) nE (AA.mem ⟨AU.snoc d.f0 d.f4,tQ⟩) (Ap.mem ⟨AU.mono,tQ⟩)).less (.cons _ (.cons _ sR)) sR nE (mR [3,0])⟩))

theorem V9(k:Nat):qY prog 145 222 k:=Nat.strongRecOn k λk d w f h sb mb s fr pr D hw t a c j F G J=>YK k d w f h sb mb s fr pr D hw t a c j F G J
theorem JF(w:wO)(f:Fq)(L:Vl w f)(sb mb:Nat)(s:BT)(fr pr:Int)(G:B9 222 sb mb s fr pr w f)(hw:IP s)(t:T1)(a:oA)(c:Nat)(J:t.bnd)(O:Ae w f t.kids a c) :
  AO prog 102 #[pB sb,tV t a c] w (AF (α:=oA×Nat) (λx=>.tuple #[tV ((Dy s t).getD (.var 0)) x.1 x.2,iV (if (Dy s t).isSome then 0 else 4)]) (λ_=>True) (λx=>[λw f=>Ae w f ((Dy s t).getD (.var 0)).kids x.1 x.2]) w f):=by
 refine Dq [λw f=>Ae w f t.kids a c] func102 C C C (AR L ⟨O,tQ⟩ ⟨Ae.mono,tQ⟩)<|Af 21 [1] (λb1=>λb2=>y<|λ_=>B3 C C (eC X5 C C) (λw f d=>OX w f d.vl sb mb s fr pr (B9.keep G d.exm d.ent (λh=>h) (λh=>h)) hw t a c J d.f0)<|Aa 4 (λ_=>A6 10 C C (λD=>?_) (λD=>?_)));replace D:=Ee D;refine Af 11 [0] (y<|λ_=>?_);have F:Dy s t=none:=by rw[Dy,D];rfl
 exact AK (λw f d=>B5 C (Ac C AH d.k0 C) (Ak C)) (λw f d=>⟨(none,0),f,(by rw[F];rfl),tQ,d.exm,⟨by rw[F];exact Ae.nil _ _ _ _,tQ⟩⟩);replace D:=Eh D;refine Af 8 [1] (y<|λ_=>?_);obtain⟨j,Q⟩:∃j,B4 s 1000 t.one=some j:=by have K:=D;rw[Hy,Fc] at K;exact Option.isSome_iff_exists.1 K
 refine BV C C (eC RO C C) (λw f d=>V9 1000 w f d.vl sb mb s fr pr (B9.keep G d.exm d.ent (λh=>h) (λh=>h)) hw t a c j J d.f0 Q) (λx=>⟨Ae.mono,tQ⟩) ?_;rintro⟨a2,c2⟩ -;refine Af 5 [0] (y<|λ_=>?_);have F:Dy s t=some (Bg s 1000 t.one).hd:=by rw[Dy,if_pos D]
 exact AK (λw f d=>B5 C (Ac C AH d.k0 C) (Ak C)) (λw f d=>⟨(a2,c2),f,(by rw[F];rfl),tQ,d.exm,⟨by rw[F];exact d.f0,tQ⟩⟩)
theorem YT(m:Nat)(ih:qE prog 88 m)(w:wO)(f:Fq)(hv:Vl w f)(l:List Int)(L:oA)(lc:Nat)(h:Ty)(O:oA)(yc:Nat)(hl:l.length≤1000000)(hyl:h.len≤200000)(hyb:h.bnd)(hI:B7 w f l L lc)(hY:Ae w f h O yc)(t:T1)(a:oA)(c:Nat)(hm:t.kids.size<m+1)(J:t.bnd)(hT:Ae w f t.kids a c) :
  AO prog 88 #[tV t a c,.slice L l.length lc,.slice O h.len yc] w (AF (α:=oA×Nat) (λx=>tV (Co t l h) x.1 x.2) (λ_=>True) (λx=>[λw f=>Ae w f (Co t l h).kids x.1 x.2]) w f):=by
 have hbl:=J.1;refine Dq [λw f=>Ae w f t.kids a c,λw f=>B7 w f l L lc,λw f=>Ae w f h O yc] func88 C C C (AR hv ⟨hT,hI,hY,tQ⟩ ⟨Ae.mono,B7.mono,Ae.mono,tQ⟩)<|Af 14 [1] (λb1=>λb2=>y<|λ_=>?_)
 ·
  refine A6 13 C C (λQ=>?_) (λQ=>?_);refine Af 7 [1] (y<|λ_=>B3 C C (eC WI C C) (λw f d=>MA w f d.vl l L lc t.num hl d.f1)<|Aa 8 (λ_=>A6 20 C C (λK=>?_) (λK=>?_)));refine Aa 7 (λ_=>A6 25 C C (λh3=>?_) (λh3=>?_));refine Aa 2 (λ_=>?_);obtain⟨i,hix⟩:∃i,Du l t.num=some i:=by cases hx:Du l t.num with|some i=>exact⟨i,C⟩|none=>have G:=dT K;simp only[Zt,hx] at G;omega
  have F:Zt l t.num=i:=by rw[Zt,hix]
  obtain⟨t2,U⟩:=Me (k:=h) (i:=i) (by have G:=dT h3;rw[F] at G;omega);refine Ja (α:=Nat×Nat×oA×Nat) (λx=>O=some ⟨x.1,x.2.1,none⟩) (λx=>[⟨x.1,x.2.1+i*4,tC t2 x.2.2.1 x.2.2.2⟩]) (λx=>[λw f=>Ae w f t2.kids x.2.2.1 x.2.2.2]) (λw f d=>let ⟨b,off,ka,kc,Q,K,h3⟩:=Ae.nth d.f2 U;⟨(b,off,ka,kc),Q,(oE K),AA.mem ⟨h3,tQ⟩⟩) (λx=>Ap.mem ⟨Ae.mono,tQ⟩) ?_;rintro⟨eb,eo,ka,kc⟩ rfl;have hil:i<h.len:=by have G:=dT h3;rw[F] at G;omega
  rw[F];refine Af 5 [100,0] (aI oM<|y2<|λ_=>BV C C (eC Np C C) (λw f d=>OA w f d.vl t2 ka kc (FA hyb U) d.f0) (λx=>⟨Ae.mono,tQ⟩) ?_);rintro⟨a2,c2⟩ -;refine Af 6 [0] (y<|λ_=>?_);obtain⟨n,rfl⟩:=Ec Q;have D:Co (.var n) l h=t2:=by rw[Oe,show Du l n=some i from hix];show (h.get i).getD _=t2;rw[U];rfl
  exact AK (λw f d=>A3 C (Ac C AH d.k0 C)) (λw f d=>⟨(a2,c2),f,(by rw[D]),tQ,d.exm,⟨by rw[D];exact d.f0,tQ⟩⟩);refine Af 11 [1,0] (y<|y<|λ_=>?_);obtain⟨n,rfl⟩:=Ec Q
  have D:Co (.var n) l h=.var n:=by
   rw[Oe]
   cases hx:Du l n with
   |none=>rfl
   |some i=>show (h.get i).getD _=_;rw[dZ (by have G:=dF h3;rw[show Zt l (T1.num (.var n))=i by simp only[T1.num,Zt,hx]] at G;omega)];rfl
  rotate_left
  refine Af 18 [1,0] (y<|y<|λ_=>?_);obtain⟨n,rfl⟩:=Ec Q
  have D:Co (.var n) l h=.var n:=by
   rw[Oe]
   cases hx:Du l n with
   |none=>rfl
   |some i=>have G:=dF K;rw[show Zt l (T1.num (.var n))=i by simp only[T1.num,Zt,hx]] at G;omega
  rotate_left
  refine Af 8 [1] (y<|λ_=>mmk C C Cu C C C C (by have:=J.1;omega) (by have:=J.1;unfold maxLen;omega) λW=>Af 13 [1] (y<|λ_=>?_));refine D6 (α:=Nat×Ty×Ty×lV) (λx=>x.2.1.len) (λx=>x.1+x.2.1.len=t.kids.len∧x.2.2.1.len=x.1∧Dw l h t.kids=x.2.2.1.app (Dw l h x.2.1)∧x.2.1.bnd∧x.2.1.size≤t.kids.size) (λx=>(E8 1 (.slice L l.length lc) 2 (.slice O h.len yc) 3 (pB b1) 6 (pB b2) 8 (.slice (some ⟨W,0,none⟩) t.kids.len t.kids.len) 37 (.slice a t.kids.len c) 38 (iV (t.kids.len:Int)) 39 (iV (x.1:Int)))) (λx=>X0 w f) (λx=>[⟨b2,zT,123,true⟩,⟨b1,tC t a c,123,true⟩]) (λx=>[⟨123,4,some ⟨W,0,none⟩,t.kids.len,t.kids.len,x.2.2.2++EZ x.2.1.len zT⟩]) (λx=>[]) (λx=>[λw f=>Bn w f a x.1 x.2.1,λw f=>AU w f x.2.2.1 x.2.2.2,λw f=>B7 w f l L lc,λw f=>Ae w f h O yc]) (0,t.kids,.nil,[]) ⟨by simp,C,C,J.2,Nat.le_refl _⟩ lE (λw f d=>d.more (B':=[]) (F':=[λw f=>Bn w f a 0 t.kids,λw f=>AU w f .nil []]) nE (AA.mem ⟨Ae.at d.f0,C,tQ⟩) (Ap.mem ⟨Bn.mono,AU.mono,tQ⟩) |>.less sR sR nE (mR [0,1,3,4])) ?_;rintro⟨i,r,Y,xs⟩ ⟨hi,Z,hk,hb,hs⟩;dsimp only at hi Z hk hb hs ⊢;refine Aa 6 (λ_=>A6 40 C C (λK=>?_) (λK=>?_));refine Aa 6 (λ_=>?_);have hil:i<t.kids.len:=by have:=dT K;omega
  obtain⟨t2,r,rfl⟩:=Ty.cases1 r oM;rw[T1.len_cons] at hi;refine Te 0 C ?_;rintro⟨eb,eo,ka,kc⟩ rfl;refine Af 15 [100,0,0,0] (aI oM<|y2<|λb3=>y<|y<|λ_=>BV C C (eC DA C C) (λw f d=>ih w f d.vl l L lc h O yc hl hyl hyb d.f4 d.f5 t2 ka kc (by have:=T1.size_cons t2 r;omega) (T1.bnd_cons.1 hb).1 d.f0) (λx=>⟨Ae.mono,tQ⟩) ?_);rintro⟨a2,c2⟩ -;refine Aa 1 (aI oM<|λ_=>IF (λw f d=>AU.len d.f4) λhxl=>?_);rw[Z] at hxl;exact mrs 0 ((xs++tC (Co t2 l h) a2 c2)++EZ r.len zT) C C C C AH C C C (by simp only[Nat.zero_add,List.length_cons,List.length_nil,Int.toNat_natCast];omega) (by rw[Nat.zero_add,Int.toNat_natCast,← hxl,T1.len_cons,EZ];exact NR _ _ _ _ C) C<|Aa 7 (aI ⟨oM,oM⟩<|λ_=>C0 ((i+1,r,Y.snoc (Co t2 l h),xs++tC (Co t2 l h) a2 c2)) (show r.len<(t2.cons r).len by rw[T1.len_cons];omega) ⟨show i+1+r.len=t.kids.len by omega,show (Y.snoc _).len=i+1 by rw[Ty.len_snoc,Z],show Dw l h t.kids=(Y.snoc _).app (Dw l h r) by rw[hk,P4,Ty.snoc_app],(T1.bnd_cons.1 hb).2,show r.size≤t.kids.size by have:=T1.size_cons t2 r;omega⟩ lE (λw f d=>⟨_,(d.more (B':=[]) (F':=[λw f=>AU w f (Y.snoc (Co t2 l h)) (xs++tC (Co t2 l h) a2 c2)]) nE (AA.mem ⟨AU.snoc d.f0 d.f4,tQ⟩) (Ap.mem ⟨AU.mono,tQ⟩)).less (.cons _ sR) sR nE (mR [3,0,6,7])⟩));refine Aa 3 (λ_=>Dl<|Aa 3 (λ_=>?_));obtain rfl:r=.nil:=Ty.len0 (by have:=dF K;omega);rw[show Dw l h .nil=.nil from C,Ty.app_nil] at hk;refine nA 0 C C<|Af 13 [1,1,0] (y<|y<|y<|λ_=>?_);obtain⟨tx,kk,rfl⟩:=EH Q;have D:Co (.con tx kk) l h=.con tx Y:=by rw[dO];exact congrArg _ hk
  have hdk:Y.len=kk.len:=by have G:i+0=kk.len:=hi;omega
  exact AK (λw f d=>A3 C (Ac C AH d.k0 C)) (λw f d=>⟨(some ⟨W,0,none⟩,kk.len),f,(by rw[D];show _=Value.agg #[_,_,_,.slice _ Y.len _];rw[hdk];rfl),tQ,d.exm,⟨by rw[D];exact AU.toF d.f1 (by have:=d.b0;simpa[EZ,Ty.len] using this) (Nat.le_of_eq hdk),tQ⟩⟩)
  all_goals
   exact AK (λw f d=>A3 C (Ac C AH d.k0 C)) (λw f d=>⟨(a,c),f,(by rw[D]),tQ,d.exm,⟨by rw[D];exact Ae.mono _ _ _ _ hT d.ent,tQ⟩⟩)

theorem BU(w:wO)(f:Fq)(J:Vl w f)(l:List Int)(D:oA)(lc:Nat)(d:Ty)(F:oA)(G:Nat)(O:l.length≤1000000)(K:d.len≤200000)(L:d.bnd)(Q:B7 w f l D lc)(U:Ae w f d F G)(t:T1)(a:oA)(c:Nat)(W:t.bnd)(Y:Ae w f t.kids a c) :
  AO prog 88 #[tV t a c,.slice D l.length lc,.slice F d.len G] w (AF (α:=oA×Nat) (λx=>tV (Co t l d) x.1 x.2) (λ_=>True) (λx=>[λw f=>Ae w f (Co t l d).kids x.1 x.2]) w f) :=
 No (p:=qE prog 88) (λw f J l D lc d F G _ _ _ _ _ t a c h=>by omega) (λm Z w f J l D lc d F G h1 h2 h3 h4 h5 t a c h6 h7 h8=>YT m Z w f J l D lc d F G h1 h2 h3 h4 h5 t a c h6 h7 h8) (t.kids.size+1) w f J l D lc d F G O K L Q U t a c (Nat.lt_succ_self _) W Y
theorem XT(m:Nat)(ih:pZ prog 140 84 m)(w:wO)(f:Fq)(hv:Vl w f)(ob mb:Nat)(oa:oA)(oc:Nat)(l:List Int)(Z:QN 84 ob mb oa oc l w f)(hf:∀b,Pg ob mb oa b→f b=0)(t:T1)(a:oA)(c:Nat)(hm:t.kids.size<m+1)(hsz0:t.kids.size+1+l.length≤1000000)(U:t.bnd)(hT:Ae w f t.kids a c) :
  AO prog 140 #[tV t a c,.map (some mb),pB ob] w (NG (α:=oA×Nat) (λ_=>.tuple #[]) (λ_=>True) (Pg ob mb oa) (λx=>Pg ob mb x.1) (λx=>QN 84 ob mb x.1 x.2 (CI t.one l)) (λ_=>[]) w f):=by
 have hbl:=U.1;refine Hm (X:=⟨Pg ob mb oa,Pg ob mb oa,QN 84 ob mb oa oc l,w,f⟩) (H:=[]) (R:=[]) (B:=[]) (Fs:=[λw f=>Ae w f t.kids a c]) (f:=f) func140 C C C (LX (M:=Pg ob mb oa) hv Z EL.stab (λb J=>⟨Z.lt J,hf b J⟩) ⟨hT,tQ⟩ ⟨Ae.mono,tQ⟩)<|Af 13 [0] (λb1=>y<|λ_=>?_)
 ·
  refine A6 10 C C (λF=>?_) (λF=>?_);refine Af 7 [0] (y<|λ_=>Cz C C (λw f d=>Pc (K:=ED) (a:=t.num) C C Pa Pv jS d.res.map (Ll d.res.nd) (Xu t.num l))<|Aa 3 (λ_=>A6 15 C C (λD=>?_) (λD=>?_)));replace D:=Ee D;refine Af 6 [0] (y<|λ_=>iS (K:=ED) (a:=t.num) (l:=Hq l) (I':=EL 84 ob mb (.slice oa l.length oc) (l++[t.num]) oa oc l) C C C C Pa Pv (.inr (.inl C)) (Ll Z.nd) (Xy D) (λw f h=>h.map) (λw f w2 h d hC hm=>EL.mapped h hC hm D) EL.stab<|Aa 2 (λ_=>Ca [0] Aj (rd [0,1,2,4,5] (.br 3 (.br 6 (.br 7 (.rd 8 (.br 9 .fin .fin)) .fin) .fin) (.br 6 (.br 3 (.br 7 (.rd 8 (.br 9 .fin .fin)) .fin) .fin) .fin))) C kR<|Bh 5 [0] (y<|λ_=>Bj C ?_ ?_)));refine Cz C C (λw f d=>Ai C TG d.res.blk C)<|Aa 1 (λ_=>Am [0] C<|Ah C<|Aa 2 (λb2=>λ_=>?_))
  rotate_left
  refine Ah C<|Aa 2 (λb2=>λ_=>Am [1] C<|Ah C<|Cz C C (λw f d=>Ai C TG d.res.blk C)<|Aa 1 (λ_=>?_))
  rotate_left
  replace D:=Eh D;refine Aa 5 (λ_=>?_);obtain⟨n,rfl⟩:=Ec F;have G:CI (T1.var n).one l=l:=by rw[T7];exact if_pos D
  exact AK (λw f d=>Gp C) (λw f d=>⟨(oa,oc),f,C,tQ,d.exm,(λb J=>let ⟨F,D,O⟩:=d.mi b J;O.elim (λh=>.inr ⟨h,F,D⟩) .inl),(by rw[G];exact d.res),tQ⟩);refine Af 12 [0] (y<|λ_=>?_);refine D6 (α:=Nat×Ty×List Int×oA×Nat) (λx=>x.2.1.len) (λx=>x.1+x.2.1.len=t.kids.len∧CI t.kids l=CI x.2.1 x.2.2.1∧x.2.1.bnd∧x.2.1.size+x.2.2.1.length≤1000000∧x.2.1.size≤t.kids.size) (λx=>(E6 1 (.map (some mb)) 2 (pB ob) 3 (pB b1) 29 (.slice a t.kids.len c) 30 (iV (t.kids.len:Int)) 31 (iV (x.1:Int)))) (λx=>⟨Pg ob mb oa,Pg ob mb x.2.2.2.1,QN 84 ob mb x.2.2.2.1 x.2.2.2.2 x.2.2.1,w,f⟩) (λx=>[⟨b1,tC t a c,123,true⟩]) (λx=>[]) (λx=>[]) (λx=>[λw f=>Bn w f a x.1 x.2.1]) (0,t.kids,l,oa,oc) ⟨by simp,C,U.2,(by show t.kids.size+l.length≤1000000;omega),Nat.le_refl _⟩ lE (λw f d=>d.more (B':=[]) (F':=[λw f=>Bn w f a 0 t.kids]) nE (AA.mem ⟨Ae.at d.f0,tQ⟩) (Ap.mem ⟨Bn.mono,tQ⟩) |>.less sR sR nE (mR [0])) ?_;rintro⟨i,r,Q,W,Y⟩ ⟨hi,hk,L,hsz,hs⟩;dsimp only at hi hk L hsz hs ⊢;refine Aa 6 (λ_=>A6 32 C C (λD=>?_) (λD=>?_));refine Aa 6 (λ_=>?_);have hil:i<t.kids.len:=by have:=dT D;omega
  obtain⟨t2,r,rfl⟩:=Ty.cases1 r oM;rw[T1.len_cons] at hi;refine Te 0 C ?_;rintro⟨eb,eo,ka,kc⟩ rfl;refine Af 11 [100,0,0,0] (aI oM<|y2<|λb2=>y<|y<|λ_=>iY (XX:=λ_ _=>False) C C (eC Xt C C) (λw f d=>(ih w f d.vl ob mb W Y Q d.res d.mz t2 ka kc (by have:=T1.size_cons t2 r;omega) (by have:=T1.size_cons t2 r;omega) (T1.bnd_cons.1 L).1 d.f0).retP) (λ_=>EL.stab) (λ_=>trivial) (λ_ _ _ _ _ h=>h.elim) ?_);rintro⟨oa3,oc3⟩ -;exact Aa 7 (aI ⟨oM,oM⟩<|λ_=>C0 ((i+1,r,CI t2.one Q,oa3,oc3)) (show r.len<(t2.cons r).len by rw[T1.len_cons];omega) ⟨show i+1+r.len=t.kids.len by omega,show CI t.kids l=CI r (CI t2.one Q) by rw[hk,Zl],(T1.bnd_cons.1 L).2,show r.size+(CI t2.one Q).length≤1000000 by have F:=T1.size_cons t2 r;have D:=Jw t2.one Q;have O:t2.one.size=t2.kids.size+0+1:=T1.size_cons t2 .nil;omega,show r.size≤t.kids.size by have:=T1.size_cons t2 r;omega⟩ lE (λw f d=>⟨_,d.less (.cons _ sR) sR nE (mR [1])⟩));refine Aa 3 (λ_=>Dl<|Aa 1 (λ_=>?_));obtain rfl:r=.nil:=Ty.len0 (by have:=dF D;omega);obtain⟨tx,kk,rfl⟩:=EH F;have G:CI (T1.con tx kk).one l=Q:=by rw[cI];exact hk
  exact iW (λw f d=>Gp C) (λw f d=>⟨(W,Y),f,C,tQ,d.exm,(λb J=>let ⟨F,D,O⟩:=d.mi b J;O.elim (λh=>.inr ⟨h,F,D⟩) .inl),(by rw[G];exact d.res),tQ⟩)
  all_goals
   refine Am [1] C<|Ah C<|ZP (MI':=Pg ob mb) (I':=λa' c'=>EL 84 ob mb (.slice oa l.length oc) (l++[t.num]) a' c' (l++[t.num])) 0 C C N9 C C C C C C C oM oM (λw f h=>h.row) (λb h=>.inr (.inr h)) (λ_ _ h=>Pg.or h) (λw f w2 a2 c2 h d hr hG=>EL.app h hr hG) (λ_ _=>EL.stab) λa2 c2=>Aa 1 (λ_=>Am [1] C<|AN 1 (λ_=>Ah C<|lZ (b:=ob) (I':=EL 84 ob mb (.slice a2 (l.length+1) c2) (l++[t.num]) a2 c2 (l++[t.num])) C C C C TG C C C (.inl C) (λw f h=>h.blk) (λw f w2 h d hC J=>EL.store h hC J) EL.stab<|Aa 1 (λ_=>Am [1] C ?_)));refine Bp<|Aa 3 (λ_=>?_);obtain⟨n,rfl⟩:=Ec F;have G:CI (T1.var n).one l=l++[n]:=by rw[T7,if_neg (by rw[show l.contains n=false from D];decide)]
   exact AK (λw f d=>Gp C) (λw f d=>⟨(a2,c2),f,C,tQ,d.exm,(λb J=>let ⟨F,D,O⟩:=d.mi b J;O.elim (λh=>.inr ⟨h,F,D⟩) .inl),(by rw[G];have h9:=d.res;rw[show l.length+1=(l++[n]).length by simp] at h9;exact h9),tQ⟩)

theorem Zc(w:wO)(f:Fq)(F:Vl w f)(ob mb:Nat)(a:oA)(c:Nat)(l:List Int)(J:QN 84 ob mb a c l w f)(K:∀b,Pg ob mb a b→f b=0)(t:T1)(d:oA)(D:Nat)(G:t.kids.size+1+l.length≤1000000)(L:t.bnd)(O:Ae w f t.kids d D) :
  AO prog 140 #[tV t d D,.map (some mb),pB ob] w (NG (α:=oA×Nat) (λ_=>.tuple #[]) (λ_=>True) (Pg ob mb a) (λx=>Pg ob mb x.1) (λx=>QN 84 ob mb x.1 x.2 (CI t.one l)) (λ_=>[]) w f) :=
 No (p:=pZ prog 140 84) (λw f F ob mb a c l _ _ t d D h=>by omega) (λm Q w f F ob mb a c l U W t d D Y Z h5 h6=>XT m Q w f F ob mb a c l U W t d D Y Z h5 h6) (t.kids.size+1) w f F ob mb a c l J K t d D (Nat.lt_succ_self _) G L O
theorem G3(w:wO)(f:Fq)(Y:Vl w f)(t:T1)(a:oA)(c:Nat)(F:t.kids.size+1≤1000000)(D:t.bnd)(Z:Ae w f t.kids a c) :
  AO prog 96 #[tV t a c] w (AF (α:=oA×Nat) (λx=>.slice x.1 (Ao t).length x.2) (λ_=>True) (λx=>[λw f=>B7 w f (Ao t) x.1 x.2]) w f):=by
 refine Dq [λw f=>Ae w f t.kids a c] func96 C C C (AR Y ⟨Z,tQ⟩ ⟨Ae.mono,tQ⟩)<|Af 14 [1] (λb1=>λb2=>y<|λ_=>mmp (K:=ED) C C λm1=>vL 0 C C<|IF (λw f d=>(λe=>(by have W:=d.res.1.2.lt;have G:=d.res.2;subst e;obtain⟨es,c,J,_⟩:=d.res.1.2;have L:=G.symm.trans J;cases L):b2≠m1)) λO=>iY (α:=oA×Nat) (val:=λ_=>.tuple #[]) (q:=λ_=>True) (MI':=λx=>Pg b2 m1 x.1) (I':=λx=>QN 84 b2 m1 x.1 x.2 (Ao t)) (F':=λ_=>[]) (XX:=λ_ _=>False) C C (eC Xt C C) (λw f d=>((Zc w f d.vl b2 m1 none 0 [] ⟨d.res.2,d.res.1.2,F6 _ _ _,⟨O,by simp[rb],by simp[rb]⟩,List.nodup_nil⟩ (λb D=>(d.mi b (D.elim .inr (λh=>h.elim (λh=>.inl (.inr h)) (λh=>by cases h)))).2.1) t a c F D d.f0).mono λv w2 ⟨x,f2,W,G,J,L,h5,h6⟩=>⟨x,f2,W,G,J.mono (λb D=>D.elim .inr (λh=>h.elim (λh=>.inl (.inr h)) (λh=>by cases h))),(λb D=>(L b D).imp (λD=>D.elim .inr (λh=>h.elim (λh=>.inl (.inr h)) (λh=>by cases h))) id),h5,h6⟩).retP) (λ_=>EL.stab) (λ_=>trivial) (λ_ _ _ _ _ h=>h.elim) ?_);rintro⟨Q,U⟩ -;exact Aa 4 (λ_=>Cz C C (λw f d=>Ai C TG d.res.blk C)<|Aa 4 (λ_=>AK (Cy C C) (λw f d=>let ⟨f2,hE,hF⟩:=EL.int d.res d.exm (λb D=>(d.mi b (.inr (.inr D))).2.2.elim id (λh=>h.elim));⟨(Q,U),f2,C,tQ,hE,⟨hF,tQ⟩⟩)))
end Go.Proofs.YtplnpgpagkpnmaaGreatDoor
namespace Go.Proofs
open Go.Shelf
def Tryz.lays156_ren:Go.Shelf.Ren:=⟨λ|156=>143|165=>171|166=>172|169=>173|240=>197|241=>198|276=>219|277=>220|n=>n,λ|31=>88|9=>9|3=>3|4=>4|0=>0|20=>20|72=>264|76=>268|70=>262|37=>23|75=>267|127=>291|164=>319|5=>5|80=>270|n=>n,λ|n=>n⟩
theorem Tryz.lays156:Go.Proofs.Lays.n156 prog Tryz.lays156_ren:={
 mixed:=kR
 f156:=func143.trans (congrArg some kR)
 f165:=func171.trans (congrArg some kR)
 f166:=func172.trans (congrArg some kR)
 f169:=func173.trans (congrArg some kR)
 f240:=func197.trans (congrArg some kR)
 f241:=func198.trans (congrArg some kR)
 f276:=func219.trans (congrArg some kR)
 f277:=func220.trans (congrArg some kR)
 t0:=underlying0
 a0:=isAgg0
 z0:=sizeOf0
 v0:=zeroValue0
 t3:=underlying3
 a3:=isAgg3
 z3:=sizeOf3
 v3:=zeroValue3
 t4:=underlying4
 a4:=isAgg4
 z4:=sizeOf4
 v4:=zeroValue4
 t9:=underlying9
 a9:=isAgg9
 z9:=sizeOf9
 v9:=zeroValue9
 t20:=underlying20
 a20:=isAgg20
 z20:=sizeOf20
 v20:=zeroValue20
 t31:=underlying88
 a31:=isAgg88
 z31:=sizeOf88
 v31:=zeroValue88
 t37:=underlying23
 a37:=isAgg23
 z37:=sizeOf23
 v37:=zeroValue23
 t70:=underlying262
 a70:=isAgg262
 z70:=sizeOf262
 v70:=zeroValue262
 t72:=underlying264
 a72:=isAgg264
 z72:=sizeOf264
 v72:=zeroValue264
 t75:=underlying267
 a75:=isAgg267
 z75:=sizeOf267
 v75:=zeroValue267
 t76:=underlying268
 a76:=isAgg268
 z76:=sizeOf268
 v76:=zeroValue268
 t127:=underlying291
 a127:=isAgg291
 z127:=sizeOf291
 v127:=zeroValue291
 t164:=underlying319
 a164:=isAgg319
 z164:=sizeOf319
 v164:=zeroValue319}
def Tryz.lays171_ren:Go.Shelf.Ren:=⟨λ|171=>142|243=>170|246=>196|283=>215|284=>216|285=>217|286=>218|129=>232|317=>231|318=>233|319=>234|320=>235|337=>245|338=>246|n=>n,λ|3=>3|9=>9|2=>2|4=>4|171=>314|0=>0|53=>22|37=>23|5=>5|173=>317|212=>336|51=>285|20=>20|213=>337|46=>273|232=>380|233=>381|n=>n,λ|17=>4|18=>12|19=>13|n=>n⟩
theorem Tryz.lays171:Go.Proofs.Lays.n171 prog Tryz.lays171_ren:={
 mixed:=kR
 f129:=func232.trans (congrArg some kR)
 f171:=func142.trans (congrArg some kR)
 f243:=func170.trans (congrArg some kR)
 f246:=func196.trans (congrArg some kR)
 f283:=func215.trans (congrArg some kR)
 f284:=func216.trans (congrArg some kR)
 f285:=func217.trans (congrArg some kR)
 f286:=func218.trans (congrArg some kR)
 f317:=func231.trans (congrArg some kR)
 f318:=func233.trans (congrArg some kR)
 f319:=func234.trans (congrArg some kR)
 f320:=func235.trans (congrArg some kR)
 f337:=func245.trans (congrArg some kR)
 f338:=func246.trans (congrArg some kR)
 t0:=underlying0
 a0:=isAgg0
 z0:=sizeOf0
 v0:=zeroValue0
 t2:=underlying2
 a2:=isAgg2
 z2:=sizeOf2
 v2:=zeroValue2
 t3:=underlying3
 a3:=isAgg3
 z3:=sizeOf3
 v3:=zeroValue3
 t4:=underlying4
 a4:=isAgg4
 z4:=sizeOf4
 v4:=zeroValue4
 t5:=underlying5
 a5:=isAgg5
 z5:=sizeOf5
 v5:=zeroValue5
 t9:=underlying9
 a9:=isAgg9
 z9:=sizeOf9
 v9:=zeroValue9
 t20:=underlying20
 a20:=isAgg20
 z20:=sizeOf20
 v20:=zeroValue20
 t37:=underlying23
 a37:=isAgg23
 z37:=sizeOf23
 v37:=zeroValue23
 t46:=underlying273
 a46:=isAgg273
 z46:=sizeOf273
 v46:=zeroValue273
 t51:=underlying285
 a51:=isAgg285
 z51:=sizeOf285
 v51:=zeroValue285
 t53:=underlying22
 a53:=isAgg22
 z53:=sizeOf22
 v53:=zeroValue22
 t171:=underlying314
 a171:=isAgg314
 z171:=sizeOf314
 v171:=zeroValue314
 t173:=underlying317
 a173:=isAgg317
 z173:=sizeOf317
 v173:=zeroValue317
 t212:=underlying336
 a212:=isAgg336
 z212:=sizeOf336
 v212:=zeroValue336
 t213:=underlying337
 a213:=isAgg337
 z213:=sizeOf337
 t232:=underlying380
 a232:=isAgg380
 z232:=sizeOf380
 v232:=zeroValue380
 t233:=underlying381
 a233:=isAgg381
 z233:=sizeOf381
 v233:=zeroValue381
 g17:=kR
 g18:=kR
 g19:=by kernel_rfl}
def Tryz.lays157_ren:Go.Shelf.Ren:=⟨λ|157=>129|229=>162|199=>163|261=>190|311=>212|312=>213|n=>n,λ|9=>9|31=>88|3=>3|5=>5|4=>4|119=>252|0=>0|40=>254|152=>282|21=>21|154=>284|51=>285|141=>287|196=>304|193=>301|198=>307|49=>305|194=>302|201=>310|226=>333|46=>273|227=>334|n=>n,λ|0=>0|6=>1|n=>n⟩
theorem Tryz.lays157:Go.Proofs.Lays.n157 prog Tryz.lays157_ren:={
 mixed:=kR
 f157:=func129.trans (congrArg some kR)
 f199:=func163.trans (congrArg some kR)
 f229:=func162.trans (congrArg some kR)
 f261:=func190.trans (congrArg some kR)
 f311:=func212.trans (congrArg some kR)
 f312:=func213.trans (congrArg some kR)
 t0:=underlying0
 a0:=isAgg0
 z0:=sizeOf0
 v0:=zeroValue0
 t3:=underlying3
 a3:=isAgg3
 z3:=sizeOf3
 v3:=zeroValue3
 t4:=underlying4
 a4:=isAgg4
 z4:=sizeOf4
 v4:=zeroValue4
 t5:=underlying5
 a5:=isAgg5
 z5:=sizeOf5
 v5:=zeroValue5
 t9:=underlying9
 a9:=isAgg9
 z9:=sizeOf9
 v9:=zeroValue9
 t21:=underlying21
 a21:=isAgg21
 z21:=sizeOf21
 v21:=zeroValue21
 t31:=underlying88
 a31:=isAgg88
 z31:=sizeOf88
 v31:=zeroValue88
 t40:=underlying254
 a40:=isAgg254
 z40:=sizeOf254
 v40:=zeroValue254
 t46:=underlying273
 a46:=isAgg273
 z46:=sizeOf273
 v46:=zeroValue273
 t49:=underlying305
 a49:=isAgg305
 z49:=sizeOf305
 v49:=zeroValue305
 t51:=underlying285
 a51:=isAgg285
 z51:=sizeOf285
 v51:=zeroValue285
 t119:=underlying252
 a119:=isAgg252
 z119:=sizeOf252
 t141:=underlying287
 a141:=isAgg287
 z141:=sizeOf287
 v141:=zeroValue287
 t152:=underlying282
 a152:=isAgg282
 z152:=sizeOf282
 v152:=zeroValue282
 t154:=underlying284
 a154:=isAgg284
 z154:=sizeOf284
 v154:=zeroValue284
 t193:=underlying301
 a193:=isAgg301
 z193:=sizeOf301
 v193:=zeroValue301
 t194:=underlying302
 a194:=isAgg302
 z194:=sizeOf302
 v194:=zeroValue302
 t196:=underlying304
 a196:=isAgg304
 z196:=sizeOf304
 v196:=zeroValue304
 t198:=underlying307
 a198:=isAgg307
 z198:=sizeOf307
 v198:=zeroValue307
 t201:=underlying310
 a201:=isAgg310
 z201:=sizeOf310
 v201:=zeroValue310
 t226:=underlying333
 a226:=isAgg333
 z226:=sizeOf333
 v226:=zeroValue333
 t227:=underlying334
 a227:=isAgg334
 z227:=sizeOf334
 v227:=zeroValue334
 g0:=kR
 g6:=by kernel_rfl}
end Go.Proofs
namespace Go.Proofs.YtplnpgpagkpnmaaGreatDoor
open Go.SW Go.SP Go.RowKit Go.Shelf Go.Proofs.Tryz
theorem Yr(w:wO)(f:Fq)(d:Vl w f)(i:Nat)(h:i<100):AO prog 142 #[.int .i64 (i:Int)] w (AF (α:=Unit) (λ_=>S (Lib.decDigits i)) (λ_=>True) (λ_=>[]) w f) :=
 Calls.mono (Any.strconv_Itoa_small Tryz.lays171 i h w) λ_ _ ⟨he,hw⟩=>⟨_,he,(),f,C,tQ,(by subst hw;exact C6.refl _ d),tQ⟩
theorem bxE:Builder.Extra prog Tryz.lays156_ren where
 sizeBuilder:=kR
 liesBuilder:=kR
 t5:=underlying5
 a5:=isAgg5
 z5:=sizeOf5
 v5:=zeroValue5
 infoByte:=kR
 cellsByte:=kR
 sizeByte:=kR
 neB5:=dC
theorem Ym(w:wO)(f:Fq)(L:Vl w f)(bk o c:Nat)(l:List lU)(s:lU)(J:Cs w f bk o (l.map S))(O:0<l.length)(Q:l.length≤1000000)(d:l.length≤c)(hlen:(Lib.join l s).length≤140737488355328) :
   AO prog 143 #[.slice (some ⟨bk,o,none⟩) l.length c,S s] w (AF (α:=Unit) (λ_=>S (Lib.join l s)) (λ_=>True) (λ_=>[]) w f):=by
 have K:(l.map λx=>(⟨x.toArray⟩:ByteArray)).map (·.data.toList)=l:=by rw[List.map_map];exact List.map_id' l
 have G:bk<w.heap.size:=by
   obtain⟨x,D⟩:∃x,l[0]?=some x:=⟨_,List.getElem?_eq_getElem O⟩;exact Iy (J 0 (S x) (by rw[List.getElem?_map,D];rfl)).2
 have h:=Any.strings_Join Tryz.lays156 bxE bk o c (l.map λx=>⟨x.toArray⟩) ⟨s.toArray⟩ w (λj x F=>by
   rw[List.getElem?_map] at F
   cases D:l[j]? with
   |none=>rw[D] at F;cases F
   |some y=>rw[D] at F;cases F;exact (J j (S y) (by rw[List.getElem?_map,D];rfl)).2) G (by rw[List.length_map];omega) (by rw[List.length_map];exact d) (by rw[K];exact hlen)
 rw[K,List.length_map] at h;exact Calls.mono h λ_ _ ⟨he,hw⟩=>⟨_,he,(),f,C,tQ,Go.SW.Below.exm hw L _,tQ⟩
end Go.Proofs.YtplnpgpagkpnmaaGreatDoor
namespace Go.Proofs.YtplnpgpagkpnmaaGreatDoor
open Go.SW Go.SP Go.RowKit Go.Proofs.Tryz
theorem Tu(w:wO)(f:Fq)(F:Vl w f)(n:Nat)(J:n<2000) :
  AO prog 100 #[iV (n:Int)] w (AF (α:=Unit) (λ_=>S (D4 n)) (λ_=>True) (λ_=>[]) w f):=by
 have G:(Lib.decDigits (n / 26)).length≤20:=by rw[← Qx 19 (n / 26) (by omega)];exact OG 20 _
 refine Dq [] func100 C C C (AR F tQ tQ)<|Aa 8 (λ_=>Cz C C (λw f d=>oV ((n % 26:Nat):Int) C C dC (by rw[Int.tmod_eq_emod_of_nonneg (by omega)];omega))<|Aa 1 (aI ⟨oM,oM⟩<|λ_=>Cz C C (λw f d=>Cg (m:=97+((n % 26:Nat):Int)) C jY (by unfold IntKind.wrap;simp[IntKind.bits,IntKind.signed];omega))<|Cz C C (λw f d=>wU C pE (Vu n))<|Aa 11 (aI (by simp <;> omega)<|λ_=>A6 11 C C (λD=>?_) (λD=>?_))));refine Aa 4 (λ_=>Cz C C (λw f d=>kW ((n / 26:Nat):Int) C C dC (by rw[Int.tdiv_eq_ediv_of_nonneg (by omega),Hv (by omega)];omega))<|B3 C C (eC nT C C) (λw f d=>Yr w f d.vl (n / 26) oM)<|Aa 11 (aI (by simp <;> omega)<|λ_=>?_));have h:D4 n=[39,UInt8.ofNat (97+n % 26)]++Lib.decDigits (n / 26):=by unfold D4;rw[if_neg (by have:=dT D;omega),Qx 19 (n / 26) (by omega)]
 exact AK (Cy C C) (λw f d=>⟨(),f,(by rw[h];rfl),tQ,d.exm,tQ⟩);refine Aa 10 (λ_=>?_);have h:D4 n=[39,UInt8.ofNat (97+n % 26)]:=by unfold D4;rw[if_pos (by have:=dF D;omega)];rfl
 exact AK (Cy C C) (λw f d=>⟨(),f,(by rw[h];rfl),tQ,d.exm,tQ⟩)
theorem Y5(m:Nat)(ih:pR prog 101 m)(w:wO)(f:Fq)(hv:Vl w f)(mb:Nat)(vs:List Int)(es:List (Int×Value))(D:BM ED w mb es)(hL:Mb vs es)(t:T1)(a:oA)(c:Nat)(hm:t.kids.size<m+1)(hsz:t.kids.size≤1000000)(F:t.bnd)(hT:Ae w f t.kids a c) :
  AO prog 101 #[tV t a c,.map (some mb)] w (AF (α:=Unit) (λ_=>S (Pn vs t)) (λ_=>True) (λ_=>[]) w f):=by
 have hbl:=F.1;have L:=D.lt;refine Dq [λw f=>Ae w f t.kids a c] func101 C C C (AR hv ⟨hT,tQ⟩ ⟨Ae.mono,tQ⟩)<|Af 16 [0] (λb1=>y<|λ_=>A6 8 C C (λG=>?_) (λG=>?_));refine Af 6 [0] (y<|λ_=>Cz C C (λw f d=>Pc (K:=ED) (a:=t.num) C C cZ Pv qzo9 (D.heap (d.exm.stp.block mb L (λh=>h))) hL.1 (hL.get t.num))<|Aa 6 (λ_=>?_));obtain⟨n,rfl⟩:=Ec G;exact AK (Cy C C) (λw f d=>⟨(),f,C,tQ,d.exm,tQ⟩);refine Af 10 [0] (y<|λ_=>A6 16 C C (λO=>?_) (λO=>?_));refine Af 11 [0] (y<|λ_=>?_);obtain⟨tx,kk,rfl⟩:=EH G;obtain rfl:kk=.nil:=Ty.len0 (by have Q:=beq_iff_eq.1 O;simp only[T1.kids] at Q;omega);exact AK (Cy C C) (λw f d=>⟨(),f,(by rw[W4];rfl),tQ,d.exm,tQ⟩);refine Af 22 [0,1] (y<|λb2=>y<|λ_=>iP 0 1 1 C C C dC ?_);refine D6 (α:=Nat×Ty×List lU×oA×Nat) (λx=>x.2.1.len) (λx=>x.1+x.2.1.len=t.kids.len∧x.2.2.1.length=x.1∧Dv vs t.kids=Lib.joinTail [32] x.2.2.1++Dv vs x.2.1∧x.2.1.bnd∧x.2.1.size≤t.kids.size) (λx=>(E6 1 (.map (some mb)) 2 (pB b1) 5 (.slice x.2.2.2.1 (x.1+1) x.2.2.2.2) 27 (.slice a t.kids.len c) 28 (iV (t.kids.len:Int)) 29 (iV (x.1:Int)))) (λx=>X0 w f) (λx=>[⟨b1,tC t a c,123,true⟩]) (λx=>[⟨9,1,x.2.2.2.1,x.2.2.2.2,x.1+1,(t.tx::x.2.2.1).map S⟩]) (λx=>[]) (λx=>[λw f=>Bn w f a x.1 x.2.1]) (0,t.kids,[],some ⟨b2,0,none⟩,1) ⟨by simp,C,C,F.2,Nat.le_refl _⟩ lE (λw f d=>d.more (B':=[]) (F':=[λw f=>Bn w f a 0 t.kids]) nE (AA.mem ⟨Ae.at d.f0,tQ⟩) (Ap.mem ⟨Bn.mono,tQ⟩) |>.less sR sR nE (mR [0])) ?_;rintro⟨i,r,l,ra,rc⟩ ⟨hi,hl,hk,J,hs⟩;dsimp only at hi hl hk J hs ⊢;refine Aa 6 (λ_=>A6 30 C C (λU=>?_) (λU=>?_));refine Aa 6 (λ_=>?_);have hil:i<t.kids.len:=by have:=dT U;omega
 obtain⟨t2,r,rfl⟩:=Ty.cases1 r oM;rw[T1.len_cons] at hi;refine Te 0 C ?_;rintro⟨eb,eo,ka,kc⟩ rfl;exact Af 11 [100,0,0,0] (aI oM<|y2<|λb3=>y<|y<|λ_=>B3 C C (eC W8 C C) (λw f d=>ih w f d.vl mb vs es (D.heap (d.exm.stp.block mb L (λh=>h))) hL t2 ka kc (by have:=T1.size_cons t2 r;omega) (by have:=T1.size_cons t2 r;omega) (T1.bnd_cons.1 J).1 d.f0)<|Aa 1 (λb4=>λ_=>BW 0 0 C C WT C C C C C C C C (λ_ _=>C) oM oM λW Y=>Aa 8 (aI ⟨oM,oM⟩<|λ_=>C0 ((i+1,r,l++[Pn vs t2],W,Y)) (show r.len<(t2.cons r).len by rw[T1.len_cons];omega) ⟨show i+1+r.len=t.kids.len by omega,show (l++[Pn vs t2]).length=i+1 by simp[hl],show Dv vs t.kids=Lib.joinTail [32] (l++[Pn vs t2])++Dv vs r by rw[hk,LR,Uz];simp,(T1.bnd_cons.1 J).2,show r.size≤t.kids.size by have:=T1.size_cons t2 r;omega⟩ lE (λw f d=>⟨_,by have Z:=d.less (H':=[⟨b1,tC t (some ⟨eb,eo,none⟩) c,123,true⟩]) (R':=[⟨9,1,W,Y,i+1+1,(t.tx::l).map S++[S (Pn vs t2)]⟩]) (B':=[]) (F':=[λw f=>Bn w f (some ⟨eb,eo,none⟩) (i+1) r]) (.cons _ (.cons _ sR)) sR nE (mR [1]);rw[show (t.tx::l).map S++[S (Pn vs t2)]=(t.tx::(l++[Pn vs t2])).map S by simp] at Z;exact Z⟩))));refine Aa 3 (λ_=>Dl<|Aa 3 (λ_=>?_));obtain rfl:r=.nil:=Ty.len0 (by have:=dF U;omega);rw[show Dv vs .nil=[] from C,List.append_nil] at hk;refine IF (λw f d=>(let ⟨_,h⟩:=d.row _ (.head _);h.elim (λh=>by simp at h) (λ⟨b,q,G,O,U,_⟩=>⟨b,G,U⟩):∃b,ra=some ⟨b,0,none⟩∧i+1≤rc)) λhra=>?_;obtain⟨rb1,rfl,hrc⟩:=hra;refine nA 0 C C ?_;have hjn:Lib.join (t.tx::l) [32]=t.tx++Dv vs t.kids:=by rw[Lib.join_cons,hk]
 have hjl:(t.tx++Dv vs t.kids).length≤1100000000000:=by have G:=Lh vs t.kids F.2;have O:=hbl.2;rw[List.length_append];omega
 refine Aa 2 (λ_=>BV (α:=Unit) (val:=λ_=>S (t.tx++Dv vs t.kids)) (q:=λ_=>True) (F':=λ_=>[]) C C (eC jD C C) (λw f d=>(by have Q:=Ym w f d.vl rb1 0 rc (t.tx::l) [32] d.b0 (by simp) (by simp;omega) (by simp;omega) (by rw[hjn];omega);rw[hjn,show (t.tx::l).length=i+1 by simp[hl]] at Q;exact Q)) (λx=>trivial) ?_);rintro⟨⟩ -;refine Aa 6 (aI (by simp at hjl ⊢;omega)<|aI (by simp at hjl ⊢;omega)<|λ_=>?_);obtain⟨tx,kk,rfl⟩:=EH G;have hsc:=dV vs tx kk (by have Q:¬(kk.len:Int)=0:=(by simpa[T1.kids] using O);omega);exact AK (Cy C C) (λw f d=>⟨(),f,(by rw[hsc];rfl),tQ,d.exm,tQ⟩)
theorem YA(w:wO)(f:Fq)(d:Vl w f)(mb:Nat)(vs:List Int)(es:List (Int×Value))(D:BM ED w mb es)(G:Mb vs es)(t:T1)(a:oA)(c:Nat)(F:t.kids.size≤1000000)(J:t.bnd)(K:Ae w f t.kids a c) :
  AO prog 101 #[tV t a c,.map (some mb)] w (AF (α:=Unit) (λ_=>S (Pn vs t)) (λ_=>True) (λ_=>[]) w f) :=
 No (p:=pR prog 101) (λw f d mb vs es _ _ t a c h=>by omega) (λm L w f d mb vs es O Q t a c U W Y Z=>Y5 m L w f d mb vs es O Q t a c U W Y Z) (t.kids.size+1) w f d mb vs es D G t a c (Nat.lt_succ_self _) F J K
theorem EV(w:wO)(f:Fq)(D:Vl w f)(l:List Int)(a:oA)(c:Nat)(n:Int)(F:l.length≤1000000)(G:B7 w f l a c) :
  AO prog 139 #[.slice a l.length c,iV n] w (AF (α:=Unit) (λ_=>.bool (l.contains n)) (λ_=>True) (λ_=>[]) w f):=by
 exact Dq [λw f=>B7 w f l a c] func139 C C C (AR D ⟨G,tQ⟩ ⟨B7.mono,tQ⟩)<|Aa 9 (λ_=>B3 C C (eC WI C C) (λw f d=>MA w f d.vl l a c n F d.f0)<|Aa 5 (λ_=>AK (Cy C C) (λw f d=>⟨(),f,(by congr 1;cases h:Du l n with|none=>rw[Zt,h,PG h];rfl|some i=>rw[Zt,h,(LO h).1];simp),tQ,d.exm,tQ⟩)))
theorem iG(w:wO)(f:Fq)(D:Vl w f) :
  AO prog 85 #[] w (NG (α:=Nat×Nat) (λx=>pB x.1) (λx=>x.1≠x.2) (λ_=>False) (λx=>MO x.1 x.2) (λx=>B9 222 x.1 x.2 [] 0 0) (λ_=>[]) w f):=by
 exact Dq [] func85 C C C (AR D tQ tQ)<|Aa 7 (λ_=>mmp (K:=ED) C C λm1=>Aa 6 (λb1=>λ_=>vL 0 C C<|AK (Cy C C) (λw f d=>⟨(b1,m1),f,C,vR d.res.2 d.res.1.2,d.exm,(λb F=>let ⟨G,J,L⟩:=d.mi b (F.elim .inr (λh=>.inl (.inr h)));L.elim (λh=>.inr ⟨h,G,J⟩) .inl),B9.new d.res.2 d.res.1.2,tQ⟩)))
theorem XL(w:wO)(f:Fq)(W:Vl w f)(t:T1)(a:oA)(c:Nat)(Y:t.kids.size+1≤1000)(J:t.bnd)(Z:Ae w f t.kids a c) :
  AO prog 46 #[tV t a c] w (AF (α:=Unit) (λ_=>S (P6 t)) (λ_=>True) (λ_=>[]) w f):=by
 have hvl:=G2 t;have L:(Ao t).Nodup:=HY _ _ List.nodup_nil;refine Dq [λw f=>Ae w f t.kids a c] func46 C C C (AR W ⟨Z,tQ⟩ ⟨Ae.mono,tQ⟩)<|Aa 8 (λb1=>λ_=>mmp (K:=ED) C C λm1=>Af 7 [0] (y<|λ_=>BV C C (eC Mx C C) (λw f d=>G3 w f d.vl t a c oM J d.f0) (λx=>⟨B7.mono,tQ⟩) ?_));rintro⟨va,vc⟩ -;refine Aa 5 (λ_=>?_);refine D6 (α:=Nat×List (Int×Value)) (λx=>(Ao t).length-x.1) (λx=>x.1≤(Ao t).length∧Mb ((Ao t).take x.1) x.2) (λx=>(E5 1 (pB b1) 3 (.map (some m1)) 8 (.slice va (Ao t).length vc) 9 (iV ((Ao t).length:Int)) 10 (iV (x.1:Int)))) (λx=>⟨λ_=>False,λb=>False∨b=m1,λw f=>True∧BM ED w m1 x.2,w,f⟩) (λx=>[⟨b1,tC t a c,123,true⟩]) (λx=>[]) (λx=>[]) (λx=>[λw f=>B7 w f (Ao t) va vc,λw f=>Ae w f t.kids a c]) (0,[]) ⟨Nat.zero_le _,Mb.nil⟩ lE (λw f d=>d) ?_;rintro⟨i,es⟩ ⟨hi,D⟩;dsimp only at hi D ⊢;refine Aa 6 (λ_=>A6 11 C C (λO=>?_) (λO=>?_));refine Aa 6 (λ_=>?_);have F:i<(Ao t).length:=by have:=dT O;omega
 obtain⟨v0,Q⟩:∃v,(Ao t)[i]?=some v:=⟨_,List.getElem?_eq_getElem F⟩;have G:=D.snoc (UT L Q);refine pH 0 C Q ?_;rintro⟨b,off⟩ rfl;exact Af 12 [100,0] (aI oM<|y2<|λ_=>B3 C C (eC lO C C) (λw f d=>Tu w f d.vl i oM)<|iS (K:=ED) (a:=v0) (l:=es) (I':=λw f=>True∧BM ED w m1 ((v0,S (D4 i))::es)) C C C C cZ Pv (.inr C) D.1 G.1 (λw f h=>h.2) (λw f w2 h d hC hm=>⟨tQ,hm⟩) (λ_ _ _ _ h _ J=>⟨tQ,h.2.heap (J _ (.inr C))⟩)<|Aa 7 (aI ⟨oM,oM⟩<|λ_=>C0 ((i+1,(v0,S (D4 i))::es)) (show (Ao t).length-(i+1)<(Ao t).length-i by omega) ⟨by show i+1≤_;omega,by show Mb ((Ao t).take (i+1)) _;rw[Dx Q];have U:=G.2;rw[List.length_take,Nat.min_eq_left (Nat.le_of_lt F)] at U;exact U⟩ lE (λw f d=>⟨_,d.less sR sR nE (λ_ h=>h)⟩)));refine Aa 3 (λ_=>Dl<|Aa 3 (λ_=>?_));rw[List.take_of_length_le (by have:=dF O;omega)] at D;exact Af 3 [0] (y<|λ_=>B3 C C (eC W8 C C) (λw f d=>YA w f d.vl m1 (Ao t) es d.res.2 D t a c oM J d.f1)<|Aa 4 (λ_=>AK (Cy C C) (λw f d=>⟨(),f,C,tQ,d.exm,tQ⟩)))
theorem Ma(w:wO)(f:Fq)(h:Vl w f)(ln co e:Int) :
  BB prog 91 #[.agg #[iV ln,iV co],iV e] w (λ_ _=>False) (PanE 114 (λ_=>False) (λer=>er=(ln,co,e)) w f):=by
 exact OJ (X:=X0 w f) (H:=[]) (R:=[]) (B:=[]) (Fs:=[]) (f:=f) func91 C C C (AR h tQ tQ)<|Af 9 [0] (λb1=>y<|λ_=>Cz C C (λw f d=>BF C yK)<|mpan C (λw=>BA C) (λw f d=>⟨C,(ln,co,e),f,C,C,d.exm⟩))
theorem Cd(w:wO)(f:Fq)(F:Vl w f)(b:Bool)(ln co:Int) :
  BB prog 38 #[.bool b,.agg #[iV ln,iV co]] w (AF (α:=Unit) (λ_=>.tuple #[]) (λ_=>b=true) (λ_=>[]) w f) (PanE 114 (λ_=>False) (λer=>b=false∧er=(ln,co,11)) w f):=by
 refine OJ (X:=X0 w f) (H:=[]) (R:=[]) (B:=[]) (Fs:=[]) (f:=f) func38 C C C (AR F tQ tQ)<|Aa 11 (λb1=>λ_=>A6 5 C C (λd=>?_) (λd=>?_));replace d:=Ee d;exact Af 3 [0] (y<|λ_=>Pq C C (eC V5 C C) (λ_ h=>h.elim) (λw f D=>Ma w f D.vl ln co 11) (λer J f2 he G=>by subst he;exact⟨C,_,f2,C,⟨d,C⟩,G⟩));replace d:=Eh d;exact Aa 2 (λ_=>iW (λw f D=>Gp C) (λw f D=>⟨(),f,C,d,D.exm,tQ⟩))
theorem Z0(w:wO)(f:Fq)(Z:Vl w f)(A:Ad)(U:A.ok)(s:CS)(hC:Aq 131 222 A s w f)(hf:∀b,B2 A b→f b=0)(hw:D1 s)(t u:T1)(a:oA)(c:Nat)(a2:oA)(c2:Nat)(K:t.bnd)(L:u.bnd)(hT:Ae w f t.kids a c)(hU:Ae w f u.kids a2 c2)(ln co:Int) :
  BB prog 40 #[pB A.cb,tV t a c,tV u a2 c2,.agg #[iV ln,iV co]] w (CY (α:=BT) (λ_=>.tuple #[]) (λx=>Fu s t u ln co=.ok {s with sol:=x}∧D1 {s with sol:=x}) (B2 A) (λx=>Aq 131 222 A {s with sol:=x}) (λ_=>[]) w f) (PanE 114 (B2 A) (λer=>Fu s t u ln co=.error er) w f):=by
 refine OJ (X:=XC 131 222 A s w f) (H:=[]) (R:=[]) (B:=[]) (Fs:=[λw f=>Ae w f t.kids a c,λw f=>Ae w f u.kids a2 c2]) (f:=f) func40 C C C (L2 Z hC hf ⟨hT,hU,tQ⟩ ⟨Ae.mono,Ae.mono,tQ⟩)<|Aa 8 (λb1=>λb2=>λb3=>λ_=>IQ (λw=>AE w A.cb [pB A.sb,.map (some A.km),.map (some A.dm),.map (some A.rm),iV s.vars] 131) (λw f h _=>h.blk) [0,1,2] Aj (rd [0,1,2,3,4,5] (.br 6 (.rd 7 .fin) .fin)) C kR kR kR (λ_ _ _ _ _ h=>h)<|AN 3 (λ_=>CP C C C (λw hK=>Ai C Hc hK.2.2 C)<|Bh 2 [2,1] (y<|y<|λ_=>Ah C<|jC λpr=>JK (α:=Int×BT×Int) (val:=λx=>iV x.1) (q:=λx=>(∀b,FU s.sol t u=.ok b→x.1=0∧x.2.1=b∧IP b)∧∀e,FU s.sol t u=.error e→x.1=e∧e≠0) (I':=λx=>Aq 131 222 A {s with sol:=x.2.1}) (F':=λ_=>[]) (XX:=λ_ _=>False) C C (eC wF C C) (λw f d=>((VZ w f d.vl A.sb A.mb s.sol s.fresh pr d.res.2 ⟨(d.mi _ (.inr (.inl C))).2.1,(d.mi _ (.inr (.inr (.inl C)))).2.1⟩ U.sm.1 hw.sol t u a c a2 c2 K L d.f0 d.f1).mono λv w2 ⟨x,f2,F,h2,W,h4,h5⟩=>⟨x,f2,F,h2,W.mono MO.c,d.res.1.solved U d.vl (λb hb=>(d.mi b (MO.c b hb)).2.1) W h4,h5⟩).retP) (λ_=>Aq.stab) (λ_=>trivial) (λ_ _ _ _ _ h=>h.elim) ?_)));rintro⟨Y,s3,pr3⟩ ⟨G,D⟩;refine Aa 1 (λ_=>AS [0,1,2] (λw f h _=>h.blk) C (λ_ h=>h)<|AN 1 (λ_=>Bp<|Aa 7 (λ_=>A6 17 C C (λF=>?_) (λF=>?_))));refine Af 4 [0] (y<|λ_=>?_);obtain⟨er,J⟩:∃e,FU s.sol t u=.error e:=by cases O:FU s.sol t u with|error e=>exact⟨e,C⟩|ok z=>have g9:=(G z O).1;rw[g9] at F;cases F
 obtain⟨rfl,-⟩:=D er J;exact Pq C C (eC V5 C C) (λ_ h=>h.elim) (λw f d=>Ma w f d.vl ln co Y) (λer w2 f2 he hE=>by subst he;exact⟨C,_,f2,C,(by rw[Fu,J]),hE⟩);refine Aa 2 (λ_=>?_);obtain⟨z,hz⟩:∃z,FU s.sol t u=.ok z:=by cases O:FU s.sol t u with|ok z=>exact⟨z,C⟩|error e=>have g9:=D e O;have g8:Y=0:=(by simpa using F);exact absurd (g9.1.symm.trans g8) g9.2
 obtain⟨-,rfl,Q⟩:=G z hz;exact iW (λw f d=>Gp C) (λw f d=>⟨s3,f,C,⟨(by rw[Fu,hz]),{hw with sol:=Q}⟩,d.exm,d.res,tQ⟩)
theorem Cf(w:wO)(f:Fq)(L:Vl w f)(A:Ad)(Z:A.ok)(s:CS)(O:Aq 131 222 A s w f)(Q:∀b,B2 A b→f b=0)(hw:D1 s)(t:T1)(a:oA)(c:Nat)(G:t.bnd)(U:Ae w f t.kids a c)(ln co:Int) :
  BB prog 47 #[pB A.cb,tV t a c,.agg #[iV ln,iV co]] w (CY (α:=T1×oA×Nat) (λx=>tV x.1 x.2.1 x.2.2) (λx=>Jo s t ln co=.ok x.1∧x.1.bnd∧x.1.kids.size+1≤1000) (B2 A) (λ_=>Aq 131 222 A s) (λx=>[λw f=>Ae w f x.1.kids x.2.1 x.2.2]) w f) (PanE 114 (B2 A) (λer=>Jo s t ln co=.error er) w f):=by
 refine OJ (X:=XC 131 222 A s w f) (H:=[]) (R:=[]) (B:=[]) (Fs:=[λw f=>Ae w f t.kids a c]) (f:=f) func47 C C C (L2 L O Q ⟨U,tQ⟩ ⟨Ae.mono,tQ⟩)<|Aa 8 (λb1=>λb2=>λb3=>λ_=>IQ (λw=>AE w A.cb [pB A.sb,.map (some A.km),.map (some A.dm),.map (some A.rm),iV s.vars] 131) (λw f h _=>h.blk) [0,1,2] Aj (rd [0,1,2,3,4] (.br 5 (rd [6,7,8] (.br 9 (.br 10 (.rd 11 .fin) .fin) .fin)) (.br 9 (.br 5 (rd [6,7,8] (.br 10 (.rd 11 .fin) .fin)) .fin) .fin))) C kR kR kR (λ_ _ _ _ _ h=>h)<|AN 3 (λ_=>CP C C C (λw W=>Ai C Hc W.2.2 C)<|Bh 1 [2] (y<|λ_=>?_)))
 ·
  refine Bj C ?_ ?_;refine jC λpr=>BV (α:=oA×Nat) C C (eC MV C C) (λw f d=>JF w f d.vl A.sb A.mb s.sol s.fresh pr d.res.2 hw.sol t a c G d.f0) (λ_=>⟨Ae.mono,tQ⟩) ?_;rintro⟨a2,c2⟩ -;refine Aa 1 (λ_=>AS [0,1,2] (λw f h _=>h.1.blk) C (λ_ h=>h)<|AN 3 (λ_=>Ah C<|Aa 2 (λb4=>λ_=>AS [1,2,3] (λw f h _=>h.1.blk) C (λ_ h=>h) ?_)))
  rotate_left
  refine Ah C<|Aa 2 (λb4=>λ_=>AS [1,2,3] (λw f h _=>h.blk) C (λ_ h=>h)<|Ah C<|jC λpr=>BV (α:=oA×Nat) C C (eC MV C C) (λw f d=>JF w f d.vl A.sb A.mb s.sol s.fresh pr d.res.2 hw.sol t a c G d.f0) (λ_=>⟨Ae.mono,tQ⟩) ?_);rintro⟨a2,c2⟩ -;refine Aa 1 (λ_=>AS [1,2,3] (λw f h _=>h.1.blk) C (λ_ h=>h)<|AN 3 (λ_=>?_))
  all_goals
   refine Ah C<|Af 2 [0] (y<|λ_=>AS [1,2,3] (λw f h _=>h.1.blk) C (λ_ h=>h)<|AN 1 (λ_=>Bp<|Aa 8 (λ_=>A6 19 C C (λD=>?_) (λD=>?_))));refine Af 4 [2] (y<|λ_=>?_);have F:Dy s.sol t=none:=by cases J:Dy s.sol t with|none=>rfl|some z=>rw[J] at D;cases D
   rw[F];exact Pq C C (eC V5 C C) (λ_ h=>h.elim) (λw f d=>Ma w f d.vl ln co 4) (λer w2 f2 he Y=>by subst he;exact⟨C,_,f2,C,(by rw[Jo,F]),Y⟩);refine Af 10 [0,1] (y<|y<|λ_=>?_);obtain⟨z,hz⟩:∃z,Dy s.sol t=some z:=by cases J:Dy s.sol t with|some z=>exact⟨z,C⟩|none=>rw[J] at D;cases D
   exact AK (λw f d=>A3 C (Ac C AH d.k1 C)) (λw f d=>⟨(z,a2,c2),f,(by rw[hz];rfl),⟨(by rw[Jo,hz]),My hw.sol G hz,KF hz⟩,d.exm,d.res.1,⟨by have K:=d.f0;rw[hz] at K;exact K,tQ⟩⟩)

theorem Mu(w:wO)(f:Fq)(Y:Vl w f)(A:Ad)(O:A.ok)(s:CS)(Z:Aq 131 222 A s w f)(hf:∀b,B2 A b→f b=0)(hw:D1 s)(l:List Int)(la:oA)(lc:Nat)(hl:l.length≤200000)(hfb:s.fresh+l.length≤900000000000) :
  AO prog 168 #[pB A.cb,.slice la l.length lc] w (CY (α:=oA×Nat) (λx=>.slice x.1 (Bx l s).1.len x.2) (λ_=>True) (B2 A) (λ_=>Aq 131 222 A (Bx l s).2) (λx=>[λw f=>Ae w f (Bx l s).1 x.1 x.2]) w f):=by
 have Q:=hw.fr;refine Hm (X:=XC 131 222 A s w f) (H:=[]) (R:=[]) (B:=[]) (Fs:=[]) (f:=f) func168 C C C (L2 Y Z hf tQ tQ)<|Aa 19 (λ_=>KR 123 4 ?_);refine D6 (α:=Nat×lV×oA×Nat) (λx=>l.length-x.1) (λx=>x.1≤l.length) (λx=>(E4 0 (pB A.cb) 5 (.slice x.2.2.1 x.1 x.2.2.2) 7 (iV (l.length:Int)) 8 (iV (x.1:Int)))) (λx=>⟨B2 A,B2 A,Aq 131 222 A {s with fresh:=s.fresh+(x.1:Nat)},w,f⟩) (λx=>[]) (λx=>[⟨123,4,x.2.2.1,x.2.2.2,x.1,x.2.1⟩]) (λx=>[]) (λx=>[λw f=>AU w f (DY s.fresh x.1) x.2.1]) (0,[],none,0) (Nat.zero_le _) lE (λw f d=>(by have D:=d.more (B':=[]) (F':=[λw f=>AU w f (DY s.fresh 0) []]) nE (AA.mem ⟨C,tQ⟩) (Ap.mem ⟨AU.mono,tQ⟩);rw[show s={s with fresh:=s.fresh+(0:Nat)} by simp] at D;exact D)) ?_;rintro⟨i,xs,U,rc⟩ hi;dsimp only at hi ⊢;refine Aa 6 (λ_=>A6 9 C C (λF=>?_) (λF=>?_));refine Aa 5 (λ_=>?_);have hil:i<l.length:=by have:=dT F;omega
 refine Aa 5 (λ_=>Cz C C (λw f d=>Ai C Hc d.res.blk C)<|jC λpr=>JK (α:=Unit) (val:=λ_=>tV (.var (({s with fresh:=s.fresh+(i:Nat)}:CS).fresh+1)) none 0) (q:=λ_=>True) (I':=λ_=>Aq 131 222 A { ({s with fresh:=s.fresh+(i:Nat)}:CS) with fresh:=({s with fresh:=s.fresh+(i:Nat)}:CS).fresh+1}) (F':=λ_=>[]) (XX:=λ_ _=>False) C C (eC K8 C C) (λw f d=>((OC w f d.vl A.sb A.mb _ _ pr d.res.2 ⟨(d.mi _ (.inr (.inl C))).2.1,(d.mi _ (.inr (.inr (.inl C)))).2.1⟩ O.sm.1 (by constructor <;> (simp only;omega))).mono λv w2 ⟨x,f2,F,h2,W,h4,h5⟩=>⟨x,f2,F,h2,W.mono MO.c,d.res.1.solved O d.vl (λb hb=>(d.mi b (MO.c b hb)).2.1) W h4,h5⟩).retP) (λ_=>Aq.stab) (λ_=>trivial) (λ_ _ _ _ _ h=>h.elim) ?_);rintro⟨⟩ -;exact Aa 1 (λb1=>λ_=>BW 0 0 C C Cu C C C C C C C C (λ_ _=>C) oM oM λJ K=>Aa 8 (aI ⟨oM,oM⟩<|λ_=>C0 ((i+1,xs++tC (.var (s.fresh+i+1)) none 0,J,K)) (show l.length-(i+1)<l.length-i by omega) (show i+1≤l.length by omega) lE (λw f d=>⟨_,by have D:=(d.more (B':=[]) (F':=[λw f=>AU w f (DY s.fresh (i+1)) (xs++tC (.var (s.fresh+i+1)) none 0)]) nE (AA.mem ⟨by rw[M6];exact AU.snoc (Ae.nil _ _ _ _) d.f0,tQ⟩) (Ap.mem ⟨AU.mono,tQ⟩)).less (H':=[]) (List.nil_sublist _) sR (B':=[]) nE (F':=[λw f=>AU w f (DY s.fresh (i+1)) (xs++tC (.var (s.fresh+i+1)) none 0)]) (mR [0]);rw[show s.fresh+(i:Int)+1=s.fresh+((i+1:Nat):Int) by omega] at D ⊢;exact D⟩)));refine Aa 3 (λ_=>Dl<|Aa 3 (λ_=>?_));obtain rfl:i=l.length:=by have:=dF F;omega
 refine Aa 6 (λ_=>?_);have G:(Bx l s).1.len=l.length:=by rw[BC];exact Fm _ _
 rcases Nat.eq_zero_or_pos l.length with L|L
 · exact AK (Cy C C) (λw f d=>⟨(U,rc),f,(by rw[G]),tQ,d.exm,(by rw[BC];exact d.res),⟨by rw[BC];show Ae _ _ (DY s.fresh l.length) _ _;rw[L];exact Ae.nil _ _ _ _,tQ⟩⟩)
 · exact AK (Cy C C) (λw f d=>let ⟨f2,D,hF⟩:=OY d d.f0 (by rw[Fm];exact L);⟨(U,rc),f2,(by rw[G]),tQ,D.exm,(by rw[BC];exact D.res),⟨by rw[BC];exact hF,tQ⟩⟩)
theorem Qq(w:wO)(f:Fq)(hv:Vl w f)(A:Ad)(hA:A.ok)(s:CS)(hC:Aq 131 222 A s w f)(hf:∀b,B2 A b→f b=0)(hw:D1 s)(op ln co nm:Int)(tx:lU)(kids:Nd)(na:oA)(nc:Nat)(hfb:s.fresh≤800000000000) :
  BB prog 136 #[pB A.cb,.agg #[iV op,iV ln,iV co,S tx,iV nm,.slice na kids.len nc]] w (CY (α:=(Ty×oA×Nat)×(T1×oA×Nat)×CS) (λx=>.tuple #[.slice x.1.2.1 x.1.1.len x.1.2.2,tV x.2.1.1 x.2.1.2.1 x.2.1.2.2]) (λx=>Kj s tx kids.len ln co=.ok (x.1.1,x.2.1.1,x.2.2)∧x.1.1.len=kids.len∧x.1.1.bnd∧x.2.1.1.bnd∧D1 x.2.2∧x.2.2.fresh≤s.fresh+200000) (B2 A) (λx=>Aq 131 222 A x.2.2) (λx=>[λw f=>Ae w f x.1.1 x.1.2.1 x.1.2.2,λw f=>Ae w f x.2.1.1.kids x.2.1.2.1 x.2.1.2.2]) w f) (PanE 114 (B2 A) (λer=>Kj s tx kids.len ln co=.error er) w f):=by
 refine OJ (X:=XC 131 222 A s w f) (H:=[]) (R:=[]) (B:=[]) (Fs:=[]) (f:=f) func136 C C C (L2 hv hC hf tQ tQ)<|Aa 8 (λb1=>λb2=>λ_=>mxk λes=>IF (λw f d=>BN.dis d.res.2.2 hw.dc) λO=>?_)
 cases hl:Bo s.cons tx with
 |none =>
  refine IF (λw f d=>(BN.look d.res.2.2).1 hl) λQ=>IQ (λw=>AE w A.cb [pB A.sb,.map (some A.km),.map (some A.dm),.map (some A.rm),iV s.vars] 131∧BM Ck w A.km es) (λw f h _=>⟨h.1.blk,h.2.1⟩) [0,1] Aj (rd [0,1,2,3,4,5,6,7,8,9] (.br 10 (.br 11 (.rd 12 .fin) .fin) .fin)) C kR kR kR (λ_ _ _ _ _ h=>h)<|AN 3 (λ_=>CP C C C (λw U=>Ai C Mg U.2.2.1 C)<|Bh 2 [1] (y<|λ_=>CP C C C (λw U=>K4 (K:=Ck) (a:=tx) C C LM Fp QB U.2.2.2 O Q)<|AN 3 (λ_=>Ah C<|Aa 2 (λb3=>λ_=>AS [1,2] (λw f h _=>⟨h.1.blk,h.2.1⟩) C (λ_ h=>h) ?_))));exact Ah C<|Af 2 [0] (y<|λ_=>AS [1,2] (λw f h _=>⟨h.1.blk,h.2.1⟩) C (λ_ h=>h)<|AN 1 (λ_=>Bp<|Af 15 [2] (y<|λ_=>Pq C C (eC Ew C C) (λ_ h=>h.elim) (λw f d=>(Cd w f d.vl false ln co).mono (λ_ _ ⟨_,_,_,h,_⟩=>by cases h) λ_ _ h=>h) (λer w2 f2 he hE=>⟨C,er,f2,C,(by rw[Kj,hl,he.2]),hE⟩))))
 |some m =>
  refine Ja (α:=oA×Nat×oA×Nat×oA×Nat) (λx=>EF es tx=some (.agg (iZ m x.1 x.2.1 x.2.2.1 x.2.2.2.1 x.2.2.2.2.1 x.2.2.2.2.2).toArray)) (λx=>[]) (λx=>[λw f=>Ae w f m.args x.1 x.2.1,λw f=>Ae w f m.out.kids x.2.2.1 x.2.2.2.1,λw f=>B7 w f m.vars x.2.2.2.2.1 x.2.2.2.2.2]) (λw f d=>let ⟨aa,ac,oa,oc,va,vc,W,h2,h3,h4⟩:=(BN.look d.res.2.2).2 m hl;⟨(aa,ac,oa,oc,va,vc),W,nE,AA.mem ⟨h2,h3,h4,tQ⟩⟩) (λx=>Ap.mem ⟨Ae.mono,Ae.mono,B7.mono,tQ⟩) ?_;rintro⟨aa,ac,oa,oc,va,vc⟩ Q;obtain⟨hm1,hm2,Y,hm4⟩:=hw.cons tx m hl;refine IQ (λw=>AE w A.cb [pB A.sb,.map (some A.km),.map (some A.dm),.map (some A.rm),iV s.vars] 131∧BM Ck w A.km es) (λw f h _=>⟨h.1.blk,h.2.1⟩) [0,1] Aj (rd [0,1,2,3,4,5,6,7,8,9] (.br 10 (.br 11 (.rd 12 .fin) .fin) .fin)) C kR kR kR (λ_ _ _ _ _ h=>h)<|AN 3 (λ_=>CP C C C (λw U=>Ai C Mg U.2.2.1 C)<|Bh 2 [1] (y<|λ_=>CP C C C (λw U=>K5 (K:=Ck) (a:=tx) C C LM Fp QB U.2.2.2 O Q)<|AN 3 (λ_=>Ah C<|Aa 2 (λb3=>λ_=>AS [1,2] (λw f h _=>⟨h.1.blk,h.2.1⟩) C (λ_ h=>h)<|Ah C ?_))));refine Af 2 [0] (y<|λ_=>AS [1,2] (λw f h _=>⟨h.1.blk,h.2.1⟩) C (λ_ h=>h)<|AN 1 (λ_=>Bp<|Af 15 [0,2,2] (y<|y<|y<|λ_=>DC (α:=Unit) (val:=λ_=>.tuple #[]) (q:=λ_=>((m.args.len:Int)==kids.len)=true) (I':=λ_=>Aq 131 222 A s) (F':=λ_=>[]) C C (eC Ew C C) (λ_ h=>h.elim) (λw f d=>(Cd w f d.vl ((m.args.len:Int)==kids.len) ln co).mono (λ_ _ ⟨x,f2,W,h2,h3,h4⟩=>⟨x,f2,W,h2,h3.mono (λ_ h=>h.elim),(d.call0 h3).res.1,h4⟩) λ_ _ h=>h) (λ_=>Aq.stab) (λ_=>trivial) (λer w2 f2 he hE=>⟨C,er,f2,C,(by rw[Kj,hl];simp only;rw[if_neg (by rw[he.1];decide),he.2]),hE⟩) ?_)));rintro⟨⟩ hle;have hlen:m.args.len=kids.len:=by have:=beq_iff_eq.1 hle;omega
  refine Af 7 [0] (y<|λ_=>JK (XX:=λ_ _=>False) C C (eC QO C C) (λw f d=>(Mu w f d.vl A hA s d.res d.mz hw m.vars va vc hm4 oM).retP) (λ_=>Aq.stab) (λ_=>⟨Ae.mono,tQ⟩) (λ_ _ _ _ _ h=>h.elim) ?_);rintro⟨G,J⟩ -;have hnl:(Bx m.vars s).1.len=m.vars.length:=by rw[BC];exact Fm _ _
  have D:(Bx m.vars s).1.bnd:=by rw[BC];exact Ie _ _
  refine Af 18 [0] (y<|λ_=>KR 123 4 ?_);refine D6 (α:=Nat×Ty×Ty×lV×oA×Nat) (λx=>x.2.1.len) (λx=>x.1+x.2.1.len=m.args.len∧x.2.2.1.len=x.1∧Dw m.vars (Bx m.vars s).1 m.args=x.2.2.1.app (Dw m.vars (Bx m.vars s).1 x.2.1)∧x.2.1.bnd) (λx=>(E9 0 (pB A.cb) 3 (pB b1) 5 (pB b2) 6 (pB b3) 8 (.slice G (Bx m.vars s).1.len J) 9 (.slice x.2.2.2.2.1 x.1 x.2.2.2.2.2) 40 (.slice aa m.args.len ac) 41 (iV (m.args.len:Int)) 42 (iV (x.1:Int)))) (λx=>⟨B2 A,B2 A,Aq 131 222 A (Bx m.vars s).2,w,f⟩) (λx=>[⟨b3,iZ m aa ac oa oc va vc,174,true⟩,⟨b2,zT,123,true⟩,⟨b1,[iV op,iV ln,iV co,S tx,iV nm,.slice na kids.len nc],121,true⟩]) (λx=>[⟨123,4,x.2.2.2.2.1,x.2.2.2.2.2,x.1,x.2.2.2.1⟩]) (λx=>[]) (λx=>[λw f=>Bn w f aa x.1 x.2.1,λw f=>AU w f x.2.2.1 x.2.2.2.1,λw f=>B7 w f m.vars va vc,λw f=>Ae w f (Bx m.vars s).1 G J,λw f=>Ae w f m.out.kids oa oc]) (0,m.args,.nil,[],none,0) ⟨by simp,C,C,hm2⟩ lE (λw f d=>d.more (B':=[]) (F':=[λw f=>Bn w f aa 0 m.args,λw f=>AU w f .nil []]) nE (AA.mem ⟨Ae.at d.f1,C,tQ⟩) (Ap.mem ⟨Bn.mono,AU.mono,tQ⟩) |>.less sR sR nE (mR [0,1,5,2,4])) ?_;rintro⟨i,r,F,xs,ra,rc⟩ ⟨hi,L,hk,Z⟩;dsimp only at hi L hk Z ⊢;refine Aa 6 (λ_=>A6 43 C C (λW=>?_) (λW=>?_));refine Aa 6 (λ_=>?_);have hil:i<m.args.len:=by have:=dT W;omega
  obtain⟨t2,r,rfl⟩:=Ty.cases1 r oM;rw[T1.len_cons] at hi;refine Te 0 C ?_;rintro⟨eb,eo,ka,kc⟩ rfl;refine Af 13 [100,0,0,0,1] (aI oM<|y2<|λb4=>y<|y<|y<|λ_=>BV C C (eC DA C C) (λw f d=>BU w f d.vl m.vars va vc (Bx m.vars s).1 G J oM oM D d.f4 d.f5 t2 ka kc (T1.bnd_cons.1 Z).1 d.f0) (λx=>⟨Ae.mono,tQ⟩) ?_);rintro⟨a2,c2⟩ -;exact Aa 1 (λb5=>λ_=>BW 0 0 C C Cu C C C C C C C C (λ_ _=>C) oM oM λra2 rc2=>Aa 8 (aI ⟨oM,oM⟩<|λ_=>C0 ((i+1,r,F.snoc (Co t2 m.vars (Bx m.vars s).1),xs++tC (Co t2 m.vars (Bx m.vars s).1) a2 c2,ra2,rc2)) (show r.len<(t2.cons r).len by rw[T1.len_cons];omega) ⟨show i+1+r.len=_ by omega,show (F.snoc _).len=i+1 by rw[Ty.len_snoc,L],show Dw m.vars (Bx m.vars s).1 m.args=(F.snoc _).app (Dw m.vars (Bx m.vars s).1 r) by rw[hk,P4,Ty.snoc_app],(T1.bnd_cons.1 Z).2⟩ lE (λw f d=>⟨_,(d.more (B':=[]) (F':=[λw f=>AU w f (F.snoc (Co t2 m.vars (Bx m.vars s).1)) (xs++tC (Co t2 m.vars (Bx m.vars s).1) a2 c2)]) nE (AA.mem ⟨AU.snoc d.f0 d.f4,tQ⟩) (Ap.mem ⟨AU.mono,tQ⟩)).less (.cons _ (.cons _ sR)) sR nE (mR [3,0,6,7,8])⟩)));refine Aa 3 (λ_=>Dl<|Aa 3 (λ_=>?_));obtain rfl:r=.nil:=Ty.len0 (by have:=dF W;omega);rw[show Dw m.vars (Bx m.vars s).1 .nil=.nil from C,Ty.app_nil] at hk;refine Af 7 [0,0] (y<|y<|λ_=>BV C C (eC DA C C) (λw f d=>BU w f d.vl m.vars va vc (Bx m.vars s).1 G J oM oM D d.f2 d.f3 m.out oa oc Y d.f4) (λx=>⟨Ae.mono,tQ⟩) ?_);rintro⟨a3,c3⟩ -;refine Af 5 [1] (y<|λ_=>?_);have hmk:Kj s tx kids.len ln co=.ok (F,Co m.out m.vars (Bx m.vars s).1,(Bx m.vars s).2):=by rw[Kj,hl];simp only;rw[if_pos hle,hk]
  have hdb:F.bnd:=by rw[← hk];exact (H6 D _ hm2).1
  have hdk:F.len=kids.len:=by have:i+0=m.args.len:=hi;omega
  rcases Nat.eq_zero_or_pos F.len with h0|h0
  · exact AK (λw f d=>B5 C (Ak C) (Ac C AH d.k1 C)) (λw f d=>⟨((F,ra,rc),(Co m.out m.vars (Bx m.vars s).1,a3,c3),(Bx m.vars s).2),f,(by dsimp only;rw[L]),⟨hmk,hdk,hdb,IY D Y,(by rw[BC];exact hw.fresh (by have:=hw.fr;omega)),(by rw[BC];show s.fresh+_≤_;omega)⟩,d.exm,d.res,⟨by obtain rfl:=Ty.len0 h0;exact Ae.nil _ _ _ _,d.f0,tQ⟩⟩)
  · exact AK (λw f d=>B5 C (Ak C) (Ac C AH d.k1 C)) (λw f d=>let ⟨f2,hM2,hF⟩:=OY d d.f2 h0;⟨((F,ra,rc),(Co m.out m.vars (Bx m.vars s).1,a3,c3),(Bx m.vars s).2),f2,(by dsimp only;rw[L]),⟨hmk,hdk,hdb,IY D Y,(by rw[BC];exact hw.fresh (by have:=hw.fr;omega)),(by rw[BC];show s.fresh+_≤_;omega)⟩,hM2.exm,hM2.res,⟨hF,hM2.fact (i:=0) C,tQ⟩⟩)
theorem Zb(w:wO)(f:Fq)(hv:Vl w f)(A:Ad)(hA:A.ok)(s:CS)(hC:Aq 131 222 A s w f)(hf:∀b,B2 A b→f b=0)(hw:D1 s)(op ln co nm:Int)(tx:lU)(kids:Nd)(na:oA)(nc:Nat)(e:By)(ea:oA)(heB:FN e)(hE:AV w f e ea)(hfb:s.fresh≤800000000000) :
  BB prog 135 #[pB A.cb,.agg #[iV op,iV ln,iV co,S tx,iV nm,.slice na kids.len nc],.pointer ea] w (CY (α:=(T1×oA×Nat)×CS) (λx=>tV x.1.1 x.1.2.1 x.1.2.2) (λx=>IG s e tx ln co=.ok (x.1.1,x.2)∧x.1.1.bnd∧D1 x.2∧x.2.fresh≤s.fresh+200000) (B2 A) (λx=>Aq 131 222 A x.2) (λx=>[λw f=>Ae w f x.1.1.kids x.1.2.1 x.1.2.2]) w f) (PanE 114 (B2 A) (λer=>IG s e tx ln co=.error er) w f):=by
 refine OJ (X:=XC 131 222 A s w f) (H:=[]) (R:=[]) (B:=[]) (Fs:=[λw f=>AV w f e ea]) (f:=f) func135 C C C (L2 hv hC hf ⟨hE,tQ⟩ ⟨AV.mono,tQ⟩)<|Aa 8 (λb1=>λb2=>λ_=>?_);refine D6 (α:=By×oA) (λx=>x.1.length) (λx=>O7 e tx=O7 x.1 tx∧FN x.1) (λx=>(E4 0 (pB A.cb) 2 (.pointer x.2) 4 (pB b1) 6 (pB b2))) (λx=>⟨B2 A,B2 A,Aq 131 222 A s,w,f⟩) (λx=>[⟨b2,zT,123,true⟩,⟨b1,[iV op,iV ln,iV co,S tx,iV nm,.slice na kids.len nc],121,true⟩]) (λx=>[]) (λx=>[]) (λx=>[λw f=>AV w f x.1 x.2]) (e,ea) ⟨C,heB⟩ lE (λw f D=>D) ?_;rintro⟨e2,ea⟩ ⟨hfi,heb⟩;dsimp only at hfi heb ⊢;refine Aa 2 (λ_=>?_)
 cases e2 with
 |nil =>
  refine IF (λw f D=>(D.f0:ea=none)) λhea=>?_;subst hea;exact IQ (λw=>AE w A.cb [pB A.sb,.map (some A.km),.map (some A.dm),.map (some A.rm),iV s.vars] 131) (λw f h _=>h.blk) [0,1] Aj (rd [0,1,2,3,4,5,6,7,8,9,10] .fin) C kR kR kR (λ_ _ _ _ _ h=>h)<|AN 11 (λ_=>Bp<|Aa 4 (λ_=>Dl<|Af 8 [1] (y<|λ_=>Pq C C (eC Ew C C) (λ_ h=>h.elim) (λw f D=>(Cd w f D.vl false ln co).mono (λ_ _ ⟨_,_,_,h,_⟩=>by cases h) λ_ _ h=>h) (λer w2 f2 he hE=>⟨C,er,f2,C,(by rw[IG,hfi,he.2];rfl),hE⟩))))
 |cons b e3 =>
  refine Ja (α:=Nat×oA×Nat×oA×Nat×oA) (λx=>ea=some ⟨x.1,0,none⟩) (λx=>[⟨x.1,0,S b.name::(tC b.t x.2.1 x.2.2.1++[.slice x.2.2.2.1 b.all.length x.2.2.2.2.1,.pointer x.2.2.2.2.2])⟩]) (λx=>[λw f=>Ae w f b.t.kids x.2.1 x.2.2.1,λw f=>B7 w f b.all x.2.2.2.1 x.2.2.2.2.1,λw f=>AV w f e3 x.2.2.2.2.2]) (λw f D=>let ⟨k,ta,tc,va,vc,L,h1,h2,U,h4,h5⟩:=D.f0;⟨(k,ta,tc,va,vc,L),h1,(oE h2),AA.mem ⟨U,h4,h5,tQ⟩⟩) (λx=>Ap.mem ⟨Ae.mono,B7.mono,AV.mono,tQ⟩) ?_;rintro⟨ek,eta,etc,O,Q,era⟩ rfl;refine IQ (λw=>AE w A.cb [pB A.sb,.map (some A.km),.map (some A.dm),.map (some A.rm),iV s.vars] 131) (λw f h _=>h.blk) [0,1] Aj (rd [0,1,2,3,4,5,6,7,8,9,10] .fin) C kR kR kR (λ_ _ _ _ _ h=>h)<|Bh 11 [100,0,1] (y2<|y<|λ_=>Bp<|Aa 1 (λ_=>A6 21 C C (λh1=>?_) (λh1=>?_)));exact Af 12 [100,6] (y2<|λ_=>C0 ((e3,era)) (show e3.length<(b::e3).length from Nat.lt_succ_self _) ⟨hfi.trans (by show (if b.name==tx then some b else O7 e3 tx)=_;rw[if_neg (by have F:(!(b.name==tx))=true:=h1;intro h8;rw[h8] at F;cases F)]),λb2 hb2=>heb b2 (.tail _ hb2)⟩ lE (λw f D=>⟨_,D.less sR sR nE (mR [2])⟩));refine Aa 3 (λ_=>Dl<|Af 8 [1] (y<|λ_=>DC (α:=Unit) (val:=λ_=>.tuple #[]) (q:=λ_=>True) (I':=λ_=>Aq 131 222 A s) (F':=λ_=>[]) (pe:=λer=>False) (M:=λ_=>False) (T:=114) C C (eC Ew C C) (λ_ h=>h.elim) (λw f D=>(Cd w f D.vl true ln co).mono (λ_ _ ⟨x,f2,h1,h2,U,h4⟩=>⟨x,f2,h1,tQ,U.mono (λ_ h=>h.elim),(D.call0 U).res,h4⟩) λ_ _ ⟨_,_,_,h,_⟩=>by cases h.1) (λ_=>Aq.stab) (λ_=>trivial) (λer w2 f2 he hE=>he.elim) ?_));rintro⟨⟩ -;have K:O7 e tx=some b:=hfi.trans (by show (if b.name==tx then some b else O7 e3 tx)=_;rw[if_pos (by have F:(!(b.name==tx))=false:=h1;cases h8:(b.name==tx) with|true=>rfl|false=>rw[h8] at F;cases F)]);obtain⟨hbb,hba⟩:=heb b (.head _);refine Aa 3 (λ_=>IQ (λw=>AE w A.cb [pB A.sb,.map (some A.km),.map (some A.dm),.map (some A.rm),iV s.vars] 131) (λw f h _=>h.blk) [0,1] Aj (rd [0,1,2,3,4,5,6,7] (.br 8 (.br 9 (.br 10 .fin .fin) .fin) (.br 9 (.br 8 (.br 10 .fin .fin) .fin) .fin))) C kR kR kR (λ_ _ _ _ _ h=>h)<|Bh 8 [100,1,1] (y2<|y<|λ_=>Bj C ?_ ?_));refine DC C C (eC Fx C C) (λ_ h=>h) (λw f D=>Cf w f D.vl A hA s D.res D.mz hw b.t eta etc hbb D.f0 ln co) (λ_=>Aq.stab) (λ_=>⟨Ae.mono,tQ⟩) (λer w2 f2 he hE=>⟨C,er,f2,C,(by rw[IG,K];simp only;rw[he]),hE⟩) ?_;rintro⟨d,fa,fc⟩ ⟨W,G,Y⟩;dsimp only at W G Y ⊢;refine Aa 1 (λ_=>AS [0,1] (λw f h _=>h.blk) C (λ_ h=>h)<|Ah C<|Aa 2 (λb3=>λ_=>AS [1,2] (λw f h _=>h.blk) C (λ_ h=>h)<|Ah C<|Af 2 [0] (y<|λ_=>AS [1,2] (λw f h _=>h.blk) C (λ_ h=>h)<|Bp<|Af 10 [0] (y<|λ_=>?_))));refine BV C C (eC Mx C C) (λw f D=>G3 w f D.vl d fa fc oM G D.f0) (λx=>⟨B7.mono,tQ⟩) ?_;rintro⟨va,vc⟩ -;have hvl:=G2 d;refine Aa 5 (λ_=>KR 3 1 ?_)
  refine D6 (α:=Nat×oA×Nat) (λx=>(Ao d).length-x.1) (λx=>x.1≤(Ao d).length) (λx=>(E9 0 (pB A.cb) 2 (pB ek) 4 (pB b1) 6 (pB b2) 7 (pB b3) 8 (.slice x.2.1 (((Ao d).take x.1).filter λv=>b.all.contains v).length x.2.2) 41 (.slice va (Ao d).length vc) 42 (iV ((Ao d).length:Int)) 43 (iV (x.1:Int)))) (λx=>⟨B2 A,B2 A,Aq 131 222 A s,w,f⟩) (λx=>[⟨b3,tC d fa fc,123,true⟩,⟨b2,zT,123,true⟩,⟨b1,[iV op,iV ln,iV co,S tx,iV nm,.slice na kids.len nc],121,true⟩]) (λx=>[⟨3,1,x.2.1,x.2.2,(((Ao d).take x.1).filter λv=>b.all.contains v).length,(((Ao d).take x.1).filter λv=>b.all.contains v).map λn=>iV n⟩]) (λx=>[⟨ek,0,S b.name::(tC b.t eta etc++[Value.slice O b.all.length Q,Value.pointer era])⟩]) (λx=>[λw f=>B7 w f (Ao d) va vc,λw f=>Ae w f d.kids fa fc,λw f=>B7 w f b.all O Q]) (0,none,0) (Nat.zero_le _) lE (λw f D=>D.less sR sR (λ_ h=>h) (mR [0,1,3])) ?_;rintro⟨i,L,rc⟩ hi;dsimp only at hi ⊢;have hfl2:(((Ao d).take i).filter λv=>b.all.contains v).length≤i:=Nat.le_trans (List.length_filter_le _ _) (by rw[List.length_take];exact Nat.min_le_left _ _);refine Aa 6 (λ_=>A6 44 C C (λh2=>?_) (λh2=>?_));refine Aa 6 (λ_=>?_);have hil:i<(Ao d).length:=by have:=dT h2;omega
  obtain⟨v0,hx⟩:∃v,(Ao d)[i]?=some v:=⟨_,List.getElem?_eq_getElem hil⟩;refine pH 0 C hx ?_;rintro⟨vb,voff⟩ rfl;refine Af 14 [100,0,101,5] (aI oM<|y2<|y2<|λ_=>B3 C C (eC Nx C C) (λw f D=>EV w f D.vl b.all O Q v0 hba D.f2)<|Aa 2 (λ_=>A6 53 C C (λU=>?_) (λU=>?_)));refine Aa 5 (λb4=>λ_=>BW 0 0 C C N9 C C C C C C C C (λ_ _=>C) oM oM λZ rc2=>Aa 8 (aI ⟨oM,oM⟩<|λ_=>?_));have J:(((Ao d).take (i+1)).filter λv=>b.all.contains v)=(((Ao d).take i).filter λv=>b.all.contains v)++[v0]:=by rw[Dx hx,List.filter_append];have F:v0∈b.all:=(by simpa using U);simp[F]
  exact C0 ((i+1,Z,rc2)) (show (Ao d).length-(i+1)<(Ao d).length-i by omega) (show i+1≤_ by omega) (pQ C C C C C (Eq.trans (b:=some (Value.slice Z ((((Ao d).take i).filter λv=>b.all.contains v).length+1) rc2)) C (by dsimp only;rw[J];simp)) C C C) (λw f D=>⟨_,by dsimp only;rw[J];rw[List.length_append,List.map_append];exact D.less (.cons _ sR) sR (λ_ h=>by rcases List.mem_cons.1 h with rfl|h;exact .tail _ (.head _);cases h) (mR [0,1,2])⟩);refine Aa 8 (aI ⟨oM,oM⟩<|λ_=>?_);have J:(((Ao d).take (i+1)).filter λv=>b.all.contains v)=(((Ao d).take i).filter λv=>b.all.contains v):=by rw[Dx hx,List.filter_append];have F:v0∉b.all:=(by simpa using U);simp[F]
  exact C0 ((i+1,L,rc)) (show (Ao d).length-(i+1)<(Ao d).length-i by omega) (show i+1≤_ by omega) (pQ C C C C C (Eq.trans (b:=some (Value.slice L (((Ao d).take i).filter λv=>b.all.contains v).length rc)) C (by dsimp only;rw[J])) C C C) (λw f D=>⟨_,by dsimp only;rw[J];skip;exact D.less sR sR (λ_ h=>by rcases List.mem_cons.1 h with rfl|h;exact .tail _ (.head _);cases h) (mR [0,1,2])⟩);refine Aa 3 (λ_=>Dl<|Aa 3 (λ_=>?_));obtain rfl:i=(Ao d).length:=by have:=dF h2;omega
  rw[List.take_length] at *;refine Ud (λw f=>B7 w f ((Ao d).filter λv=>b.all.contains v) L rc) B7.mono (λw f D=>Ns D)<|IQ (λw=>AE w A.cb [pB A.sb,.map (some A.km),.map (some A.dm),.map (some A.rm),iV s.vars] 131) (λw f h _=>h.blk) [0,2] Aj (rd [0,1,2,3] (.br 4 (.br 5 (.br 6 .fin .fin) .fin) .fin)) C kR kR kR (λ_ _ _ _ _ h=>h)<|Bh 4 [0] (y<|λ_=>Ah C<|JK (XX:=λ_ _=>False) C C (eC QO C C) (λw f D=>(Mu w f D.vl A hA s D.res D.mz hw ((Ao d).filter λv=>b.all.contains v) L rc oM oM).retP) (λ_=>Aq.stab) (λ_=>⟨Ae.mono,tQ⟩) (λ_ _ _ _ _ h=>h.elim) ?_);rintro⟨na2,nc2⟩ -;have hnl:(Bx ((Ao d).filter λv=>b.all.contains v) s).1.len=((Ao d).filter λv=>b.all.contains v).length:=by rw[BC];exact Fm _ _
  have hnb:(Bx ((Ao d).filter λv=>b.all.contains v) s).1.bnd:=by rw[BC];exact Ie _ _
  refine Aa 1 (λ_=>AS [0,2] (λw f h _=>(by have F:=h.blk;rw[BC] at F;exact F)) C (λ_ h=>h)<|Ah C<|BV C C (eC DA C C) (λw f D=>BU w f D.vl ((Ao d).filter λv=>b.all.contains v) L rc (Bx ((Ao d).filter λv=>b.all.contains v) s).1 na2 nc2 oM oM hnb D.f1 D.f0 d fa fc G D.f3) (λx=>⟨Ae.mono,tQ⟩) ?_);rintro⟨a3,c3⟩ -;refine Aa 1 (λ_=>AS [0,2] (λw f h _=>(by have F:=h.blk;rw[BC] at F;exact F)) C (λ_ h=>h)<|Ah C<|Af 2 [1] (y<|λ_=>AS [0,2] (λw f h _=>(by have F:=h.blk;rw[BC] at F;exact F)) C (λ_ h=>h)<|Bp<|Aa 2 (λ_=>?_)));have hlk:IG s e tx ln co=.ok (Co d ((Ao d).filter λv=>b.all.contains v) (Bx ((Ao d).filter λv=>b.all.contains v) s).1,(Bx ((Ao d).filter λv=>b.all.contains v) s).2):=by rw[IG,K];simp only;rw[W]
  exact AK (λw f D=>A3 C (Ac C AH D.k1 C)) (λw f D=>⟨((Co d ((Ao d).filter λv=>b.all.contains v) (Bx ((Ao d).filter λv=>b.all.contains v) s).1,a3,c3),(Bx ((Ao d).filter λv=>b.all.contains v) s).2),f,C,⟨hlk,IY hnb G,(by rw[BC];exact hw.fresh (by have:=hw.fr;omega)),(by rw[BC];show s.fresh+_≤_;omega)⟩,D.exm,D.res,⟨D.f0,tQ⟩⟩);refine Ah C<|Aa 2 (λb3=>λ_=>AS [1,2] (λw f h _=>h.blk) C (λ_ h=>h)<|Ah C<|DC C C (eC Fx C C) (λ_ h=>h) (λw f D=>Cf w f D.vl A hA s D.res D.mz hw b.t eta etc hbb D.f0 ln co) (λ_=>Aq.stab) (λ_=>⟨Ae.mono,tQ⟩) (λer w2 f2 he hE=>⟨C,er,f2,C,(by rw[IG,K];simp only;rw[he]),hE⟩) ?_);rintro⟨d,fa,fc⟩ ⟨W,G,Y⟩;dsimp only at W G Y ⊢;refine Aa 1 (λ_=>AS [1,2] (λw f h _=>h.blk) C (λ_ h=>h)<|Ah C<|Af 2 [0] (y<|λ_=>AS [1,2] (λw f h _=>h.blk) C (λ_ h=>h)<|Bp<|Af 10 [0] (y<|λ_=>BV C C (eC Mx C C) (λw f D=>G3 w f D.vl d fa fc oM G D.f0) (λx=>⟨B7.mono,tQ⟩) ?_)));rintro⟨va,vc⟩ -;have hvl:=G2 d;refine Aa 5 (λ_=>KR 3 1 ?_);refine D6 (α:=Nat×oA×Nat) (λx=>(Ao d).length-x.1) (λx=>x.1≤(Ao d).length) (λx=>(E9 0 (pB A.cb) 2 (pB ek) 4 (pB b1) 6 (pB b2) 7 (pB b3) 8 (.slice x.2.1 (((Ao d).take x.1).filter λv=>b.all.contains v).length x.2.2) 41 (.slice va (Ao d).length vc) 42 (iV ((Ao d).length:Int)) 43 (iV (x.1:Int)))) (λx=>⟨B2 A,B2 A,Aq 131 222 A s,w,f⟩) (λx=>[⟨b3,tC d fa fc,123,true⟩,⟨b2,zT,123,true⟩,⟨b1,[iV op,iV ln,iV co,S tx,iV nm,.slice na kids.len nc],121,true⟩]) (λx=>[⟨3,1,x.2.1,x.2.2,(((Ao d).take x.1).filter λv=>b.all.contains v).length,(((Ao d).take x.1).filter λv=>b.all.contains v).map λn=>iV n⟩]) (λx=>[⟨ek,0,S b.name::(tC b.t eta etc++[Value.slice O b.all.length Q,Value.pointer era])⟩]) (λx=>[λw f=>B7 w f (Ao d) va vc,λw f=>Ae w f d.kids fa fc,λw f=>B7 w f b.all O Q]) (0,none,0) (Nat.zero_le _) lE (λw f D=>D.less sR sR (λ_ h=>h) (mR [0,1,3])) ?_;rintro⟨i,L,rc⟩ hi;dsimp only at hi ⊢;have hfl2:(((Ao d).take i).filter λv=>b.all.contains v).length≤i:=Nat.le_trans (List.length_filter_le _ _) (by rw[List.length_take];exact Nat.min_le_left _ _);refine Aa 6 (λ_=>A6 44 C C (λh2=>?_) (λh2=>?_));refine Aa 6 (λ_=>?_);have hil:i<(Ao d).length:=by have:=dT h2;omega
  obtain⟨v0,hx⟩:∃v,(Ao d)[i]?=some v:=⟨_,List.getElem?_eq_getElem hil⟩;refine pH 0 C hx ?_;rintro⟨vb,voff⟩ rfl;refine Af 14 [100,0,101,5] (aI oM<|y2<|y2<|λ_=>B3 C C (eC Nx C C) (λw f D=>EV w f D.vl b.all O Q v0 hba D.f2)<|Aa 2 (λ_=>A6 53 C C (λU=>?_) (λU=>?_)));refine Aa 5 (λb4=>λ_=>BW 0 0 C C N9 C C C C C C C C (λ_ _=>C) oM oM λZ rc2=>Aa 8 (aI ⟨oM,oM⟩<|λ_=>?_));have J:(((Ao d).take (i+1)).filter λv=>b.all.contains v)=(((Ao d).take i).filter λv=>b.all.contains v)++[v0]:=by rw[Dx hx,List.filter_append];have F:v0∈b.all:=(by simpa using U);simp[F]
  exact C0 ((i+1,Z,rc2)) (show (Ao d).length-(i+1)<(Ao d).length-i by omega) (show i+1≤_ by omega) (pQ C C C C C (Eq.trans (b:=some (Value.slice Z ((((Ao d).take i).filter λv=>b.all.contains v).length+1) rc2)) C (by dsimp only;rw[J];simp)) C C C) (λw f D=>⟨_,by dsimp only;rw[J];rw[List.length_append,List.map_append];exact D.less (.cons _ sR) sR (λ_ h=>by rcases List.mem_cons.1 h with rfl|h;exact .tail _ (.head _);cases h) (mR [0,1,2])⟩);refine Aa 8 (aI ⟨oM,oM⟩<|λ_=>?_);have J:(((Ao d).take (i+1)).filter λv=>b.all.contains v)=(((Ao d).take i).filter λv=>b.all.contains v):=by rw[Dx hx,List.filter_append];have F:v0∉b.all:=(by simpa using U);simp[F]
  exact C0 ((i+1,L,rc)) (show (Ao d).length-(i+1)<(Ao d).length-i by omega) (show i+1≤_ by omega) (pQ C C C C C (Eq.trans (b:=some (Value.slice L (((Ao d).take i).filter λv=>b.all.contains v).length rc)) C (by dsimp only;rw[J])) C C C) (λw f D=>⟨_,by dsimp only;rw[J];skip;exact D.less sR sR (λ_ h=>by rcases List.mem_cons.1 h with rfl|h;exact .tail _ (.head _);cases h) (mR [0,1,2])⟩);refine Aa 3 (λ_=>Dl<|Aa 3 (λ_=>?_));obtain rfl:i=(Ao d).length:=by have:=dF h2;omega
  rw[List.take_length] at *;refine Ud (λw f=>B7 w f ((Ao d).filter λv=>b.all.contains v) L rc) B7.mono (λw f D=>Ns D)<|IQ (λw=>AE w A.cb [pB A.sb,.map (some A.km),.map (some A.dm),.map (some A.rm),iV s.vars] 131) (λw f h _=>h.blk) [0,2] Aj (rd [0,1,2,3] (.br 4 (.br 5 (.br 6 .fin .fin) .fin) .fin)) C kR kR kR (λ_ _ _ _ _ h=>h)<|Bh 4 [0] (y<|λ_=>Ah C<|JK (XX:=λ_ _=>False) C C (eC QO C C) (λw f D=>(Mu w f D.vl A hA s D.res D.mz hw ((Ao d).filter λv=>b.all.contains v) L rc oM oM).retP) (λ_=>Aq.stab) (λ_=>⟨Ae.mono,tQ⟩) (λ_ _ _ _ _ h=>h.elim) ?_);rintro⟨na2,nc2⟩ -;have hnl:(Bx ((Ao d).filter λv=>b.all.contains v) s).1.len=((Ao d).filter λv=>b.all.contains v).length:=by rw[BC];exact Fm _ _
  have hnb:(Bx ((Ao d).filter λv=>b.all.contains v) s).1.bnd:=by rw[BC];exact Ie _ _
  refine Aa 1 (λ_=>AS [0,2] (λw f h _=>(by have F:=h.blk;rw[BC] at F;exact F)) C (λ_ h=>h)<|Ah C<|BV C C (eC DA C C) (λw f D=>BU w f D.vl ((Ao d).filter λv=>b.all.contains v) L rc (Bx ((Ao d).filter λv=>b.all.contains v) s).1 na2 nc2 oM oM hnb D.f1 D.f0 d fa fc G D.f3) (λx=>⟨Ae.mono,tQ⟩) ?_);rintro⟨a3,c3⟩ -;refine Aa 1 (λ_=>AS [0,2] (λw f h _=>(by have F:=h.blk;rw[BC] at F;exact F)) C (λ_ h=>h)<|Ah C<|Af 2 [1] (y<|λ_=>AS [0,2] (λw f h _=>(by have F:=h.blk;rw[BC] at F;exact F)) C (λ_ h=>h)<|Bp<|Aa 2 (λ_=>?_)));have hlk:IG s e tx ln co=.ok (Co d ((Ao d).filter λv=>b.all.contains v) (Bx ((Ao d).filter λv=>b.all.contains v) s).1,(Bx ((Ao d).filter λv=>b.all.contains v) s).2):=by rw[IG,K];simp only;rw[W]
  exact AK (λw f D=>A3 C (Ac C AH D.k1 C)) (λw f D=>⟨((Co d ((Ao d).filter λv=>b.all.contains v) (Bx ((Ao d).filter λv=>b.all.contains v) s).1,a3,c3),(Bx ((Ao d).filter λv=>b.all.contains v) s).2),f,C,⟨hlk,IY hnb G,(by rw[BC];exact hw.fresh (by have:=hw.fr;omega)),(by rw[BC];show s.fresh+_≤_;omega)⟩,D.exm,D.res,⟨D.f0,tQ⟩⟩)
theorem Zo(w:wO)(f:Fq)(hv:Vl w f)(A:Ad)(hA:A.ok)(s:CS)(hC:Aq 131 222 A s w f)(hf:∀b,B2 A b→f b=0)(hw:D1 s)(e:By)(ea:oA)(heB:FN e)(hE:AV w f e ea) :
  AO prog 95 #[pB A.cb,.pointer ea] w (NG (α:=Nat×List Int) (λx=>.map (some x.1)) (λx=>¬B2 A x.1∧x.2.Nodup∧∀n,x.2.contains n=(B1 s e).contains n) (B2 A) (λx b=>B2 A b∨b=x.1) (λx=>L1 131 222 A s x.1 x.2) (λ_=>[]) w f):=by
 refine Hm (X:=XC 131 222 A s w f) (H:=[]) (R:=[]) (B:=[]) (Fs:=[λw f=>AV w f e ea]) (f:=f) func95 C C C (L2 hv hC hf ⟨hE,tQ⟩ ⟨AV.mono,tQ⟩)<|Aa 7 (λ_=>eY (K:=ED) C C λmb hmn=>Aa 5 (λ_=>?_));refine D6 (α:=By×oA×List Int) (λx=>x.1.length) (λx=>x.2.2.Nodup∧(∀n,(x.2.2.contains n||(B1 s x.1).contains n)=(B1 s e).contains n)∧FN x.1) (λx=>(E3 0 (pB A.cb) 1 (.pointer x.2.1) 5 (.map (some mb)))) (λx=>⟨B2 A,λb=>B2 A b∨b=mb,L1 131 222 A s mb x.2.2,w,f⟩) (λx=>[]) (λx=>[]) (λx=>[]) (λx=>[λw f=>AV w f x.1 x.2.1]) (e,ea,[]) ⟨List.nodup_nil,λn=>by simp,heB⟩ lE (λw f d=>d) ?_;rintro⟨e2,ea,ll⟩ ⟨hnd,hq,heb⟩;dsimp only at hnd hq heb ⊢;refine Aa 2 (λ_=>?_)
 cases e2 with
 |nil =>
  refine IF (λw f d=>(d.f0:ea=none)) λhea=>?_;subst hea;refine Aa 8 (λ_=>Dl<|Aa 9 (λ_=>?_));have hq5:∀n,ll.contains n=(B1 s e).contains n:=λn=>by have G:=hq n;simpa[B1] using G
  exact AK (Cy C C) (λw f d=>⟨(mb,ll),f,C,⟨hmn,hnd,hq5⟩,d.exm,(λb hb=>let ⟨W,h2,O⟩:=d.mi b hb;O.elim (λh=>.inr ⟨h,W,h2⟩) .inl),d.res,tQ⟩)
 |cons b J =>
  refine Ja (α:=Nat×oA×Nat×oA×Nat×oA) (λx=>ea=some ⟨x.1,0,none⟩) (λx=>[⟨x.1,0,S b.name::(tC b.t x.2.1 x.2.2.1++[.slice x.2.2.2.1 b.all.length x.2.2.2.2.1,.pointer x.2.2.2.2.2])⟩]) (λx=>[λw f=>Ae w f b.t.kids x.2.1 x.2.2.1,λw f=>B7 w f b.all x.2.2.2.1 x.2.2.2.2.1,λw f=>AV w f J x.2.2.2.2.2]) (λw f d=>let ⟨k,ta,tc,va,vc,ra,W,h2,O,h4,h5⟩:=d.f0;⟨(k,ta,tc,va,vc,ra),W,(oE h2),AA.mem ⟨O,h4,h5,tQ⟩⟩) (λx=>Ap.mem ⟨Ae.mono,B7.mono,AV.mono,tQ⟩) ?_;rintro⟨ek,eta,etc,eva,evc,era⟩ rfl;obtain⟨hbb,hba⟩:=heb b (.head _);refine Aa 11 (λ_=>IQ (λw=>AE w A.cb [pB A.sb,.map (some A.km),.map (some A.dm),.map (some A.rm),iV s.vars] 131) (λw f h _=>h.1.blk) [] Aj (rd [0,1,2,3,4,5,6,7,8] (.br 9 (rd [10,11,12] (.br 13 (.br 14 (.rd 15 .fin) .fin) .fin)) (.br 13 (.br 9 (rd [10,11,12] (.br 14 (.rd 15 .fin) .fin)) .fin) .fin))) C kR kR kR (λ_ _ _ _ _ h=>h)<|AN 3 (λ_=>CP C C C (λw hK=>Ai C Hc hK.2.2 C)<|Bh 5 [100,1] (y2<|λ_=>Bj C ?_ ?_)));refine BV (α:=oA×Nat) C C (eC MV C C) (λw f d=>let ⟨pr,hp⟩:=d.res.1.sol;JF w f d.vl A.sb A.mb s.sol s.fresh pr hp hw.sol b.t eta etc hbb d.f0) (λ_=>⟨Ae.mono,tQ⟩) ?_;rintro⟨a2,c2⟩ -;refine Aa 1 (λ_=>AS [] (λw f h _=>h.1.blk) C (λ_ h=>h)<|AN 3 (λ_=>Ah C<|Aa 2 (λb1=>λ_=>AS [] (λw f h _=>h.1.blk) C (λ_ h=>h)<|Ah C<|Af 2 [0] (y<|λ_=>AS [] (λw f h _=>h.1.blk) C (λ_ h=>h)<|AN 1 (λ_=>?_)))));refine Bp<|Aa 8 (λ_=>A6 31 C C (λW=>?_) (λW=>?_));refine Aa 5 (λ_=>?_);have hfn:Dy s.sol b.t=none:=by cases hx:Dy s.sol b.t with|none=>rfl|some z=>rw[hx] at W;cases W
  replace hq:∀n,(ll.contains n||(B1 s J).contains n)=(B1 s e).contains n:=λn=>by have G:=hq n;simp only[B1,hfn] at G;simpa using G
  exact Af 7 [100,6] (y2<|λ_=>C0 ((J,era,ll)) (show J.length<(b::J).length from Nat.lt_succ_self _) ⟨hnd,hq,λb2 Y=>heb b2 (.tail _ Y)⟩ lE (λw f d=>⟨_,d.less (.cons _ sR) sR nE (mR [3])⟩));refine Aa 4 (λ_=>?_);obtain⟨D,Q⟩:∃z,Dy s.sol b.t=some z:=by cases hx:Dy s.sol b.t with|some z=>exact⟨z,C⟩|none=>rw[hx] at W;cases W
  have hfbd:D.bnd:=My hw.sol hbb Q;have hfsz:=KF Q;rw[Q];dsimp only[Option.getD_some];have hfr:∀n,(B1 s (b::J)).contains n=((((Ao D).drop 0).filter λv=>!b.all.contains v).contains n||(B1 s J).contains n):=λn=>by simp only[B1,Q,List.drop_zero,List.contains_append]
  refine Af 2 [0] (y<|λ_=>BV C C (eC Mx C C) (λw f d=>G3 w f d.vl D a2 c2 oM hfbd d.f0) (λx=>⟨B7.mono,tQ⟩) ?_);rintro⟨va,vc⟩ -;have hvl:=G2 D;refine Aa 5 (λ_=>?_);refine D6 (α:=Nat×List Int) (λx=>(Ao D).length-x.1) (λx=>x.1≤(Ao D).length∧x.2.Nodup∧(∀n,((x.2.contains n||(((Ao D).drop x.1).filter λv=>!b.all.contains v).contains n)||(B1 s J).contains n)=(B1 s e).contains n)) (λx=>(E6 0 (pB A.cb) 1 (pB ek) 5 (.map (some mb)) 33 (.slice va (Ao D).length vc) 34 (iV ((Ao D).length:Int)) 35 (iV (x.1:Int)))) (λx=>⟨B2 A,λb=>B2 A b∨b=mb,L1 131 222 A s mb x.2,w,f⟩) (λx=>[]) (λx=>[]) (λx=>[⟨ek,0,S b.name::(tC b.t eta etc++[Value.slice eva b.all.length evc,Value.pointer era])⟩]) (λx=>[λw f=>B7 w f (Ao D) va vc,λw f=>B7 w f b.all eva evc,λw f=>AV w f J era]) (0,ll) ⟨Nat.zero_le _,hnd,λn=>by rw[← hq n,hfr n,Bool.or_assoc]⟩ lE (λw f d=>d.less (.cons _ sR) sR (λ_ h=>h) (mR [0,3,4])) ?_;rintro⟨i,L⟩ ⟨hi,F,U⟩;dsimp only at hi F U ⊢;refine Aa 6 (λ_=>A6 36 C C (λh2=>?_) (λh2=>?_));refine Aa 6 (λ_=>?_);have hil:i<(Ao D).length:=by have:=dT h2;omega
  obtain⟨v0,hx⟩:∃v,(Ao D)[i]?=some v:=⟨_,List.getElem?_eq_getElem hil⟩;refine pH 0 C hx ?_;rintro⟨vb,voff⟩ rfl;have hdr:(Ao D).drop i=v0::(Ao D).drop (i+1):=by obtain⟨h8,G⟩:=List.getElem?_eq_some_iff.1 hx;rw[List.drop_eq_getElem_cons h8,G]
  refine Af 14 [100,0,101,5] (aI oM<|y2<|y2<|λ_=>B3 C C (eC Nx C C) (λw f d=>EV w f d.vl b.all eva evc v0 hba d.f1)<|Aa 3 (λ_=>A6 46 C C (λO=>?_) (λO=>?_)));replace O:=Ee O;refine Aa 4 (λ_=>frUp (l:=L) (v:=v0) C C C C Pa Pv hmn F<|Aa 7 (aI ⟨oM,oM⟩<|λ_=>?_));have Z:∀n,(((if L.contains v0 then L else L++[v0]).contains n||(((Ao D).drop (i+1)).filter λv=>!b.all.contains v).contains n)||(B1 s J).contains n)=(B1 s e).contains n:=λn=>by have G:=U n;have h8:(!b.all.contains v0)=true:=(by rw[O];rfl);rw[hdr,List.filter_cons_of_pos (p:=λv=>!b.all.contains v) h8] at G;rw[← G,La]
  exact C0 ((i+1,(if L.contains v0 then L else L++[v0]))) (show (Ao D).length-(i+1)<(Ao D).length-i by omega) ⟨show i+1≤_ by omega,(PV F),Z⟩ lE (λw f d=>⟨_,d.less sR sR (λ_ h=>by rcases List.mem_cons.1 h with rfl|h;exact .tail _ (.head _);cases h) (mR [0,1,2])⟩);replace O:=Eh O;refine Aa 8 (aI ⟨oM,oM⟩<|λ_=>?_);have Z:∀n,((L.contains n||(((Ao D).drop (i+1)).filter λv=>!b.all.contains v).contains n)||(B1 s J).contains n)=(B1 s e).contains n:=λn=>by have G:=U n;rw[hdr,List.filter_cons_of_neg (by rw[O];decide)] at G;exact G
  exact C0 ((i+1,L)) (show (Ao D).length-(i+1)<(Ao D).length-i by omega) ⟨show i+1≤_ by omega,F,Z⟩ lE (λw f d=>⟨_,d.less sR sR (λ_ h=>by rcases List.mem_cons.1 h with rfl|h;exact .tail _ (.head _);cases h) (mR [0,1,2])⟩);refine Aa 3 (λ_=>Dl<|Aa 3 (λ_=>?_));have hie:(Ao D).length≤i:=by have:=dF h2;omega
  have hq2:∀n,(L.contains n||(B1 s J).contains n)=(B1 s e).contains n:=λn=>by have G:=U n;rw[List.drop_eq_nil_of_le hie] at G;simpa using G
  exact Af 7 [100,6] (y2<|λ_=>C0 ((J,era,L)) (show J.length<(b::J).length from Nat.lt_succ_self _) ⟨F,hq2,λb2 Y=>heb b2 (.tail _ Y)⟩ lE (λw f d=>⟨_,d.less sR sR nE (mR [2])⟩));refine Ah C<|Aa 2 (λb1=>λ_=>AS [] (λw f h _=>h.1.blk) C (λ_ h=>h)<|Ah C<|BV (α:=oA×Nat) C C (eC MV C C) (λw f d=>let ⟨pr,hp⟩:=d.res.1.sol;JF w f d.vl A.sb A.mb s.sol s.fresh pr hp hw.sol b.t eta etc hbb d.f0) (λ_=>⟨Ae.mono,tQ⟩) ?_);rintro⟨a2,c2⟩ -;refine Aa 1 (λ_=>AS [] (λw f h _=>h.1.blk) C (λ_ h=>h)<|AN 3 (λ_=>Ah C<|Af 2 [0] (y<|λ_=>AS [] (λw f h _=>h.1.blk) C (λ_ h=>h)<|AN 1 (λ_=>Bp<|Aa 8 (λ_=>A6 31 C C (λW=>?_) (λW=>?_))))));refine Aa 5 (λ_=>?_);have hfn:Dy s.sol b.t=none:=by cases hx:Dy s.sol b.t with|none=>rfl|some z=>rw[hx] at W;cases W
  replace hq:∀n,(ll.contains n||(B1 s J).contains n)=(B1 s e).contains n:=λn=>by have G:=hq n;simp only[B1,hfn] at G;simpa using G
  exact Af 7 [100,6] (y2<|λ_=>C0 ((J,era,ll)) (show J.length<(b::J).length from Nat.lt_succ_self _) ⟨hnd,hq,λb2 Y=>heb b2 (.tail _ Y)⟩ lE (λw f d=>⟨_,d.less (.cons _ sR) sR nE (mR [3])⟩));refine Aa 4 (λ_=>?_);obtain⟨D,Q⟩:∃z,Dy s.sol b.t=some z:=by cases hx:Dy s.sol b.t with|some z=>exact⟨z,C⟩|none=>rw[hx] at W;cases W
  have hfbd:D.bnd:=My hw.sol hbb Q;have hfsz:=KF Q;rw[Q];dsimp only[Option.getD_some];have hfr:∀n,(B1 s (b::J)).contains n=((((Ao D).drop 0).filter λv=>!b.all.contains v).contains n||(B1 s J).contains n):=λn=>by simp only[B1,Q,List.drop_zero,List.contains_append]
  refine Af 2 [0] (y<|λ_=>BV C C (eC Mx C C) (λw f d=>G3 w f d.vl D a2 c2 oM hfbd d.f0) (λx=>⟨B7.mono,tQ⟩) ?_);rintro⟨va,vc⟩ -;have hvl:=G2 D;refine Aa 5 (λ_=>?_);refine D6 (α:=Nat×List Int) (λx=>(Ao D).length-x.1) (λx=>x.1≤(Ao D).length∧x.2.Nodup∧(∀n,((x.2.contains n||(((Ao D).drop x.1).filter λv=>!b.all.contains v).contains n)||(B1 s J).contains n)=(B1 s e).contains n)) (λx=>(E6 0 (pB A.cb) 1 (pB ek) 5 (.map (some mb)) 33 (.slice va (Ao D).length vc) 34 (iV ((Ao D).length:Int)) 35 (iV (x.1:Int)))) (λx=>⟨B2 A,λb=>B2 A b∨b=mb,L1 131 222 A s mb x.2,w,f⟩) (λx=>[]) (λx=>[]) (λx=>[⟨ek,0,S b.name::(tC b.t eta etc++[Value.slice eva b.all.length evc,Value.pointer era])⟩]) (λx=>[λw f=>B7 w f (Ao D) va vc,λw f=>B7 w f b.all eva evc,λw f=>AV w f J era]) (0,ll) ⟨Nat.zero_le _,hnd,λn=>by rw[← hq n,hfr n,Bool.or_assoc]⟩ lE (λw f d=>d.less (.cons _ sR) sR (λ_ h=>h) (mR [0,3,4])) ?_;rintro⟨i,L⟩ ⟨hi,F,U⟩;dsimp only at hi F U ⊢;refine Aa 6 (λ_=>A6 36 C C (λh2=>?_) (λh2=>?_));refine Aa 6 (λ_=>?_);have hil:i<(Ao D).length:=by have:=dT h2;omega
  obtain⟨v0,hx⟩:∃v,(Ao D)[i]?=some v:=⟨_,List.getElem?_eq_getElem hil⟩;refine pH 0 C hx ?_;rintro⟨vb,voff⟩ rfl;have hdr:(Ao D).drop i=v0::(Ao D).drop (i+1):=by obtain⟨h8,G⟩:=List.getElem?_eq_some_iff.1 hx;rw[List.drop_eq_getElem_cons h8,G]
  refine Af 14 [100,0,101,5] (aI oM<|y2<|y2<|λ_=>B3 C C (eC Nx C C) (λw f d=>EV w f d.vl b.all eva evc v0 hba d.f1)<|Aa 3 (λ_=>A6 46 C C (λO=>?_) (λO=>?_)));replace O:=Ee O;refine Aa 4 (λ_=>frUp (l:=L) (v:=v0) C C C C Pa Pv hmn F<|Aa 7 (aI ⟨oM,oM⟩<|λ_=>?_));have Z:∀n,(((if L.contains v0 then L else L++[v0]).contains n||(((Ao D).drop (i+1)).filter λv=>!b.all.contains v).contains n)||(B1 s J).contains n)=(B1 s e).contains n:=λn=>by have G:=U n;have h8:(!b.all.contains v0)=true:=(by rw[O];rfl);rw[hdr,List.filter_cons_of_pos (p:=λv=>!b.all.contains v) h8] at G;rw[← G,La]
  exact C0 ((i+1,(if L.contains v0 then L else L++[v0]))) (show (Ao D).length-(i+1)<(Ao D).length-i by omega) ⟨show i+1≤_ by omega,(PV F),Z⟩ lE (λw f d=>⟨_,d.less sR sR (λ_ h=>by rcases List.mem_cons.1 h with rfl|h;exact .tail _ (.head _);cases h) (mR [0,1,2])⟩);replace O:=Eh O;refine Aa 8 (aI ⟨oM,oM⟩<|λ_=>?_);have Z:∀n,((L.contains n||(((Ao D).drop (i+1)).filter λv=>!b.all.contains v).contains n)||(B1 s J).contains n)=(B1 s e).contains n:=λn=>by have G:=U n;rw[hdr,List.filter_cons_of_neg (by rw[O];decide)] at G;exact G
  exact C0 ((i+1,L)) (show (Ao D).length-(i+1)<(Ao D).length-i by omega) ⟨show i+1≤_ by omega,F,Z⟩ lE (λw f d=>⟨_,d.less sR sR (λ_ h=>by rcases List.mem_cons.1 h with rfl|h;exact .tail _ (.head _);cases h) (mR [0,1,2])⟩);refine Aa 3 (λ_=>Dl<|Aa 3 (λ_=>?_));have hie:(Ao D).length≤i:=by have:=dF h2;omega
  have hq2:∀n,(L.contains n||(B1 s J).contains n)=(B1 s e).contains n:=λn=>by have G:=U n;rw[List.drop_eq_nil_of_le hie] at G;simpa using G
  exact Af 7 [100,6] (y2<|λ_=>C0 ((J,era,L)) (show J.length<(b::J).length from Nat.lt_succ_self _) ⟨F,hq2,λb2 Y=>heb b2 (.tail _ Y)⟩ lE (λw f d=>⟨_,d.less sR sR nE (mR [2])⟩))
theorem DH(w:wO)(f:Fq)(hv:Vl w f)(A:Ad)(hA:A.ok)(s:CS)(hC:Aq 131 222 A s w f)(hf:∀b,B2 A b→f b=0)(hw:D1 s)(e:By)(L:oA)(Q:FN e)(hE:AV w f e L)(G:lU)(t:T1)(a:oA)(c:Nat)(hb:t.bnd)(hT:Ae w f t.kids a c)(v:Bool)(ln co:Int) :
  BB prog 43 #[pB A.cb,.pointer L,S G,tV t a c,.bool v,.agg #[iV ln,iV co]] w (CY (α:=By×oA) (λx=>.pointer x.2) (λx=>HO s e G t v ln co=.ok x.1∧FN x.1) (B2 A) (λ_=>Aq 131 222 A s) (λx=>[λw f=>AV w f x.1 x.2]) w f) (PanE 114 (B2 A) (λer=>HO s e G t v ln co=.error er) w f):=by
 refine OJ (X:=XC 131 222 A s w f) (H:=[]) (R:=[]) (B:=[]) (Fs:=[λw f=>Ae w f t.kids a c,λw f=>AV w f e L]) (f:=f) func43 C C C (L2 hv hC hf ⟨hT,hE,tQ⟩ ⟨Ae.mono,AV.mono,tQ⟩)<|Af 21 [1,0] (λb1=>λb2=>y<|λb3=>y<|λ_=>A6 19 C C (λh1=>?_) (λh1=>?_));refine Af 6 [2,1] (y<|y<|λ_=>DC C C (eC Fx C C) (λ_ h=>h) (λw f d=>Cf w f d.vl A hA s d.res d.mz hw t a c hb d.f0 ln co) (λ_=>Aq.stab) (λ_=>⟨Ae.mono,tQ⟩) (λer w2 f2 he hE=>⟨C,er,f2,C,(by rw[HO,if_pos h1,he]),hE⟩) ?_);rintro⟨D,fa,fc⟩ ⟨Y,J,Z⟩;dsimp only at Y J Z ⊢;refine Af 8 [0] (y<|λ_=>iY (XX:=λ_ _=>False) C C (eC yE C C) (λw f d=>(Zo w f d.vl A hA s d.res d.mz hw e L Q d.f2).retP) (λ_=>L1.stab) (λ_=>trivial) (λ_ _ _ _ _ h=>h.elim) ?_);rintro⟨mb,F⟩ ⟨hmn,O,hlq⟩;dsimp only at hmn O hlq ⊢;refine Af 7 [0] (y<|λ_=>BV C C (eC Mx C C) (λw f d=>G3 w f d.vl D fa fc oM J d.f0) (λx=>⟨B7.mono,tQ⟩) ?_);rintro⟨va,vc⟩ -;have hvl:=G2 D;refine Aa 5 (λ_=>KR 3 1 ?_);refine D6 (α:=Nat×oA×Nat) (λx=>(Ao D).length-x.1) (λx=>x.1≤(Ao D).length) (λx=>(E8 0 (pB A.cb) 1 (.pointer L) 2 (S G) 13 (pB b3) 14 (.map (some mb)) 30 (.slice va (Ao D).length vc) 31 (iV ((Ao D).length:Int)) 32 (iV (x.1:Int)))) (λx=>⟨B2 A,λb=>B2 A b∨b=mb,L1 131 222 A s mb F,w,f⟩) (λx=>[⟨b3,tC D fa fc++[Value.slice x.2.1 (((Ao D).take x.1).filter λv=>!F.contains v).length x.2.2],182,true⟩,⟨b2,[iV ln,iV co],27,true⟩,⟨b1,tC t a c,123,true⟩]) (λx=>[⟨3,1,x.2.1,x.2.2,(((Ao D).take x.1).filter λv=>!F.contains v).length,(((Ao D).take x.1).filter λv=>!F.contains v).map λn=>iV n⟩]) (λx=>[]) (λx=>[λw f=>B7 w f (Ao D) va vc,λw f=>Ae w f D.kids fa fc,λw f=>AV w f e L]) (0,none,0) (Nat.zero_le _) lE (λw f d=>d.less sR sR nE (mR [0,1,3])) ?_;rintro⟨i,ra,rc⟩ hi;dsimp only at hi ⊢;have hfl2:(((Ao D).take i).filter λv=>!F.contains v).length≤i:=Nat.le_trans (List.length_filter_le _ _) (by rw[List.length_take];exact Nat.min_le_left _ _);refine Aa 6 (λ_=>A6 33 C C (λh2=>?_) (λh2=>?_));refine Aa 6 (λ_=>?_);have hil:i<(Ao D).length:=by have:=dT h2;omega
 obtain⟨v0,hx⟩:∃v,(Ao D)[i]?=some v:=⟨_,List.getElem?_eq_getElem hil⟩;refine pH 0 C hx ?_;rintro⟨vb,voff⟩ rfl;refine Af 10 [100,0] (aI oM<|y2<|λ_=>Cz C C (λw f d=>Pc (K:=ED) (a:=v0) C C Pa Pv jS d.res.2 (Ll O) (Xu v0 F))<|Aa 3 (λ_=>A6 39 C C (λU=>?_) (λU=>?_)));replace U:=Ee U;refine Af 6 [0] (y<|λb4=>λ_=>BW 0 0 C C N9 C C C C C C C C (λ_ _=>C) oM oM λra2 rc2=>Af 9 [1] (y<|aI ⟨oM,oM⟩<|λ_=>?_));have W:(((Ao D).take (i+1)).filter λv=>!F.contains v)=(((Ao D).take i).filter λv=>!F.contains v)++[v0]:=by rw[Dx hx,List.filter_append];have h9:v0∉F:=(by simpa using U);simp[h9]
 exact C0 ((i+1,ra2,rc2)) (show (Ao D).length-(i+1)<(Ao D).length-i by omega) (show i+1≤_ by omega) lE (λw f d=>⟨_,by dsimp only;rw[W];rw[List.length_append,List.map_append];exact d.less (.cons _ sR) sR nE (mR [0,1,2])⟩);replace U:=Eh U;refine Aa 8 (aI ⟨oM,oM⟩<|λ_=>?_);have W:(((Ao D).take (i+1)).filter λv=>!F.contains v)=(((Ao D).take i).filter λv=>!F.contains v):=by rw[Dx hx,List.filter_append];have h9:v0∈F:=(by simpa using U);simp[h9]
 exact C0 ((i+1,ra,rc)) (show (Ao D).length-(i+1)<(Ao D).length-i by omega) (show i+1≤_ by omega) lE (λw f d=>⟨_,by dsimp only;rw[W];skip;exact d.less sR sR nE (mR [0,1,2])⟩);refine Aa 3 (λ_=>Dl<|Aa 3 (λ_=>?_));obtain rfl:i=(Ao D).length:=by have:=dF h2;omega
 rw[List.take_length] at *;refine Ud (λw f=>B7 w f ((Ao D).filter λv=>!F.contains v) ra rc) B7.mono (λw f d=>Ns d)<|Af 10 [0] (y<|λb4=>λ_=>CJ 0 C C ?_);have hall:((Ao D).filter λv=>!F.contains v)=(Ao D).filter λv=>!(B1 s e).contains v:=List.filter_congr λv _=>by rw[hlq v]
 exact AK (Cy C C) (λw f d=>⟨(⟨G,D,(Ao D).filter λv=>!F.contains v⟩::e,some ⟨b4,0,none⟩),f,C,⟨(by rw[HO,if_pos h1,Y,hall]),Q.cons J (show ((Ao D).filter λv=>!F.contains v).length≤_ by omega)⟩,d.exm,d.res.1,⟨⟨b4,fa,fc,ra,rc,L,C,d.b0,d.f2,d.f0,d.f3⟩,tQ⟩⟩);exact Af 14 [0] (y<|λb4=>λ_=>CJ 0 C C<|AK (Cy C C) (λw f d=>⟨(⟨G,t,[]⟩::e,some ⟨b4,0,none⟩),f,C,⟨(by rw[HO,if_neg (by rw[h1];decide)]),Q.cons hb (Nat.zero_le _)⟩,d.exm,d.res,⟨⟨b4,a,c,none,0,L,C,d.b0,d.f0,⟨Nat.zero_le _,.inl C⟩,d.f1⟩,tQ⟩⟩))
end Go.Proofs.YtplnpgpagkpnmaaGreatDoor
