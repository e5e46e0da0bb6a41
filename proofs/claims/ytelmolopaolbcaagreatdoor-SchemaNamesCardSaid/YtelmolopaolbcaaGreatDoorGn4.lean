/- What it rests on, part 4. -/
import Derived.Test.YtelmolopaolbcaaGreatDoorGn3
import Derived.Shelf.Strings.OnBuilder
import Derived.Shelf.Strconv.Itoa3
import Derived.Shelf.Strings.Fields
set_option linter.unusedVariables false
set_option linter.unusedSimpArgs false
namespace Go.Proofs.YtelmolopaolbcaaGreatDoor
open Go.SW Go.SP Go.RowKit Go.Proofs.Tryz
theorem cme:kT prog 258=true:=kR
theorem QO(w:wO)(s:lU)(hlen:s.length≤100000)(h:(s==[])=false)(hd:∀c∈s,48≤c.toNat∧c.toNat≤57) :
  Bq prog 144 #[S s,iV 10,iV 63] w λv w'=>((CQ 0 s<4611686018427387904∧v=.tuple #[iV (CQ 0 s:Int),.nilIface])∨(4611686018427387904≤CQ 0 s∧∃z,v=.tuple #[iV z,.iface 258 (iV 1)]))∧AU w w':=by
 obtain⟨c0,Z,D⟩:∃c r,s=c::r:=by
  cases s with
  |nil=>simp at h
  |cons c r=>exact⟨c,r,C⟩
 have F:=AU.refl w;refine enter func144 C C C<|AT [] 13 [] (Ar _) (λ_=>sP 13 C (λJ=>?_) (λJ=>?_))
 ·
  exfalso;rw[h] at J;contradiction
 refine AT [.sq _] 12 [] (Ar _) (λ_=>Ab C (D2 (c:=c0) C C JQ dC (by rw[D];rfl))<|AL [.sq _,.sq _] 9 [] (Ar _) (λ_=>sP 17 C (λK=>?_) (λK=>?_)))
 ·
  exfalso;have O:=hd c0 (D▸List.mem_cons_self);have:=(beq_iff_eq).1 K;omega
 refine AT [.bk _,.sq _] 7 [] (Ar _) (λ_=>sP 21 C (λL=>?_) (λL=>?_))
 ·
  exfalso;have O:=hd c0 (D▸List.mem_cons_self);have:=(beq_iff_eq).1 L;omega
 refine AT [.bk _,.sq _] 14 [] (Ar _) (λ_=>A4 C (Ax gB C C) (JR _ s hlen h hd) ?_);rintro _ w1 ⟨(⟨hle,rfl⟩|⟨Q,rfl⟩),d⟩;replace F:=F.trans d;have U:=d.size;refine AL [.sq _] 11 [] (Ar _) (λ_=>Ab C (I1 G5 C)<|AL [.sq _,.sq _] 23 [] (Ar _) (λ_=>Ab C (Gi (62) C C dC)<|Ab C (BJ (m:=62) C L3 dC)<|Ab C (Ka (4611686018427387904) C C dC dC)<|AL [.sq _] 15 [] (Ar _) (λ_=>sP 52 C (λG=>?_) (λG=>?_))));exact AT [.sq _] 4 [] (Ar _) (λ_=>Ab C (Gi (4611686018427387903) C C dC)<|Ab C (BJ (m:=4611686018427387903) C Mm dC)<|Ab C (BR C LH)<|AL [.sq _,.sq _] 6 [] (Ar _) (λ_=>Bp (Cn C (Ah C) (Ah C))<|⟨.inr ⟨by have:=dT G;omega,_,C⟩,F⟩));exact AT [.sq _] 20 [] (Ar _) (λ_=>Ab C (BJ (m:=(CQ 0 s:Int)) C Mm (Gm ⟨oM,by have:=dF G;omega⟩))<|AL [.sq _] 20 [] (Ar _) (λ_=>Bp (Cn C (Ah C) (Ah C))<|⟨.inl ⟨by have:=dF G;omega,C⟩,F⟩));replace F:=F.trans d;have Y:=d.size;refine AL [.sq _] 11 [] (Ar _) (λ_=>Ab C (LG G5 C)<|AL [.sq _,.sq _] 2 [] (Ar _) (λ_=>B7 C C C<|Ab C (BR C LH)<|B7 C C C<|Ab C (bE G5 cme C C)<|AL [.sq _,.sq _] 19 [] (Ar _) (λ_=>Ab C (Gi (62) C C dC)<|Ab C (BJ (m:=62) C L3 dC) ?_)));exact Ab C (Ka (4611686018427387904) C C dC dC)<|AL [.sq _] 19 [] (Ar _) (λ_=>Ab C (Gi (4611686018427387903) C C dC)<|Ab C (BJ (m:=4611686018427387903) C Mm dC)<|Ab C (BR C LH)<|AL [.sq _,.sq _] 6 [] (Ar _) (λ_=>Bp (Cn C (Ah C) (Ah C))<|⟨.inr ⟨oM,_,C⟩,F⟩))
theorem Si(w:wO)(r:lU)(hlen:(45::r).length≤100000)(G:(r==[])=false)(hd:∀c∈r,48≤c.toNat∧c.toNat≤57) :
  Bq prog 144 #[S (45::r),iV 10,iV 63] w λv w'=>((CQ 0 r<4611686018427387905∧v=.tuple #[iV (-(CQ 0 r:Int)),.nilIface])∨(4611686018427387905≤CQ 0 r∧∃z,v=.tuple #[iV z,.iface 258 (iV 1)]))∧AU w w':=by
 have D:((45::r:lU)==[])=false:=rfl;have h:=AU.refl w;refine enter func144 C C C<|AT [] 13 [] (Ar _) (λ_=>sP 13 C (λJ=>?_) (λJ=>?_))
 ·
  exfalso;rw[D] at J;contradiction
 refine AT [.sq _] 12 [] (Ar _) (λ_=>Ab C (D2 (c:=45) C C JQ dC C)<|AL [.sq _,.sq _] 20 [] (Ar _) (λ_=>Ab C (MA C C JQ)<|AL [.sq _,.bk _,.sq _] 18 [] (Ar _) (λ_=>A4 C (Ax gB C C) (JR _ r (by simp only[List.length_cons] at hlen;omega) G hd) ?_)));rintro _ Q ⟨(⟨hle,rfl⟩|⟨K,rfl⟩),d⟩;replace h:=h.trans d;have L:=d.size;refine AL [.sq _] 11 [] (Ar _) (λ_=>Ab C (I1 G5 C)<|AL [.sq _,.sq _] 23 [] (Ar _) (λ_=>Ab C (Gi (62) C C dC)<|Ab C (BJ (m:=62) C L3 dC)<|Ab C (Ka (4611686018427387904) C C dC dC)<|AL [.sq _] 29 [] (Ar _) (λ_=>sP 62 C (λF=>?_) (λF=>?_))));exact AT [.sq _] 4 [] (Ar _) (λ_=>Ab C (BJ (m:=4611686018427387904) C Mm dC)<|Ab C (LO (-4611686018427387904) C dC)<|Ab C (BR C LH)<|AL [.sq _,.sq _] 6 [] (Ar _) (λ_=>Bp (Cn C (Ah C) (Ah C))<|⟨.inr ⟨by have:=dT F;omega,_,C⟩,h⟩));exact AT [.sq _] 6 [] (Ar _) (λ_=>Ab C (BJ (m:=(CQ 0 r:Int)) C Mm (Gm ⟨oM,by have:=dF F;omega⟩))<|AL [.sq _] 12 [] (Ar _) (λ_=>Ab C (LO (-(CQ 0 r:Int)) C (by rw[Gm ⟨by omega,by have:=dF F;omega⟩];omega))<|AL [.sq _] 11 [] (Ar _) (λ_=>Bp (Cn C (Ah C) (Ah C))<|⟨.inl ⟨by have:=dF F;omega,C⟩,h⟩)));replace h:=h.trans d;have O:=d.size;refine AL [.sq _] 11 [] (Ar _) (λ_=>Ab C (LG G5 C)<|AL [.sq _,.sq _] 2 [] (Ar _) (λ_=>B7 C C C<|Ab C (BR C LH)<|B7 C C C<|Ab C (bE G5 cme C C)<|AL [.sq _,.sq _] 19 [] (Ar _) (λ_=>Ab C (Gi (62) C C dC)<|Ab C (BJ (m:=62) C L3 dC) ?_)));exact Ab C (Ka (4611686018427387904) C C dC dC)<|AL [.sq _] 33 [] (Ar _) (λ_=>Ab C (BJ (m:=4611686018427387904) C Mm dC)<|Ab C (LO (-4611686018427387904) C dC)<|Ab C (BR C LH)<|AL [.sq _,.sq _] 6 [] (Ar _) (λ_=>Bp (Cn C (Ah C) (Ah C))<|⟨.inr ⟨oM,_,C⟩,h⟩))
end Go.Proofs.YtelmolopaolbcaaGreatDoor
namespace Go.SP
open Go.SW Go.RowKit
theorem HY{α:Type}(p:α→Bool):∀(l:List α),l.dropWhile p=[]↔∀x∈l,p x=true
 | []=>by simp
 |a::l=>by
   have d:=HY p l
   cases h:p a <;> simp[List.dropWhile,h,d]
theorem JM{α:Type}(p:α→Bool):∀(l:List α)(a:α)(r:List α),l.dropWhile p=a::r→p a=false
 | [],_,_,h=>by simp at h
 |b::l,a,r,h=>by
   cases d:p b with
   |true=>rw[List.dropWhile_cons_of_pos d] at h;exact JM p l a r h
   |false=>rw[List.dropWhile_cons_of_neg (by simp[d])] at h;cases h;exact d
theorem gH(s l:lU):HV s l=s.all (l.contains ·):=by
 have key:Lib.trimS s l=[]↔∀x∈s,l.contains x=true:=by
   unfold Lib.trimS Lib.trimLeftS Lib.trimRightS;rw[HY];constructor
   · intro h
     cases hd:s.reverse.dropWhile (l.contains ·) with
     |nil=>intro x D;exact (HY _ _).1 hd x (by simpa using D)
     |cons a r =>
       have G:=JM _ _ _ _ hd;have d:=h a (by rw[hd];simp);rw[G] at d;cases d
   · intro h x D
     exact h x (by have:=(List.dropWhile_suffix (l.contains ·) (l:=s.reverse)).subset (by simpa using D);simpa using this)
 unfold HV
 cases h:s.all (l.contains ·) with
 |true=>rw[key.2 (by simpa using h)];rfl
 |false =>
   have:¬Lib.trimS s l=[]:=λe=>by
     have:=key.1 e;have d:s.all (l.contains ·)=true:=by simpa using this
     rw[h] at d;cases d
   simp[this]
theorem ZU{c:UInt8}(h:Gy.contains c=true):48≤c.toNat∧c.toNat≤57:=by
 simp only[Gy,List.contains_cons,List.contains_nil,Bool.or_false,Bool.or_eq_true,beq_iff_eq] at h;rcases h with rfl|rfl|rfl|rfl|rfl|rfl|rfl|rfl|rfl|rfl <;> decide
theorem GQ{s:lU}(h:EF s=true):(s==[])=false∧∀c∈s,48≤c.toNat∧c.toNat≤57:=by
 unfold EF at h;rw[gH,Bool.and_eq_true] at h;exact⟨by simpa using h.1,λc d=>ZU (List.all_eq_true.1 h.2 c d)⟩
theorem IM(r:lU):Bg (45::r)=r:=by
 simp[Bg,Lib.trimPrefix,Lib.hasPrefix,List.isPrefixOf]
theorem IK{s:lU}(h:Pz s=false):Bg s=s:=by
 unfold Bg Lib.trimPrefix
 cases s with
 |nil=>simp
 |cons c r =>
   have:c≠45:=by simpa[Pz] using h
   simp[Lib.hasPrefix,List.isPrefixOf,this.symm]
theorem Qd{r:lU}(h:EF r=true):I0 (45::r)=if CQ 0 r<4611686018427387905 then some (-(CQ 0 r:Int)) else none:=by
 unfold I0;rw[IM,h];simp[Pz,Nat.lt_succ_iff]
theorem Q2{s:lU}(d:Pz s=false)(h:EF s=true):I0 s=if CQ 0 s<4611686018427387904 then some (CQ 0 s:Int) else none:=by
 unfold I0;rw[IK d,h,d];simp
theorem KP(s:lU):Pz s=false∨∃r,s=45::r:=by
 cases s with
 |nil=>exact .inl C
 |cons c r =>
   by_cases h:c=45
   · exact .inr ⟨r,by rw[h]⟩
   · left;simp[Pz,h]
theorem FQ(s:lU):(Bg s).length≤s.length:=by
 rcases KP s with h|⟨r,rfl⟩
 · rw[IK h];exact Nat.le_refl _
 · rw[IM];simp
end Go.SP
namespace Go.SP
theorem S9(s t:lU):(Lib.cut s t).1.length≤s.length:=by
 unfold Lib.cut
 split
 · simp only[List.length_take];exact Nat.min_le_right _ _
 · exact Nat.le_refl _
theorem SQ(s t:lU):(Lib.cut s t).2.1.length≤s.length:=by
 unfold Lib.cut
 split
 · simp
 · simp
end Go.SP
namespace Go.SP
def wsel(s:lU)(a b c d e f g:Bool):Option (Int×Int×lU):=if a||(b&&c) then none else if d&&e then some (6,0,s) else if f&&g then some (5,0,s) else none
theorem CB{s:lU}(d:I0 s=none)(h:IN s=none):Hw s=wsel s (decide ((40:Int)<s.length)) (!(Bg s==[])) (HV (Bg s) Gy) (HV (s.take 1) F6) (HV s (F6++Ev++Gy)) (HV (s.take 1) (Ev++GA)) (HV s (F6++Ev++Gy++GA)):=by
 rw[Hw,d];simp only[h];rfl
end Go.SP
namespace Go.SP
variable {j:Nat}
theorem Qq{p:Ps}{src:lU}(h:¬j<src.length∨∃c,src[j]?=some c∧((c.toNat:Int) != 10)=false):Kq p (src.drop j)=(src.drop j,p):=by
 rcases h with h|⟨c,d,h⟩
 · rw[List.drop_eq_nil_of_le (by omega)];rfl
 · rw[Bc d,Kq,if_neg (by rw[h];decide)]
theorem Y4{p:Ps}{src:lU}{c:UInt8}(d:src[j]?=some c)(h:((c.toNat:Int) != 10)=true):Kq p (src.drop j)=Kq (adv c p) (src.drop (j+1)):=by
 rw[Bc d,Kq,if_pos h]
theorem Pc{p:Ps}{src:lU}(h:¬j<src.length∨∃c,src[j]?=some c∧decide (Lib.indexByte Jz c<0)=false):CW p (src.drop j)=([],src.drop j,p):=by
 rcases h with h|⟨c,d,h⟩
 · rw[List.drop_eq_nil_of_le (by omega)];rfl
 · rw[Bc d,CW,if_neg (by rw[h];decide)]
theorem V5{p:Ps}{src:lU}{c:UInt8}(d:src[j]?=some c)(h:decide (Lib.indexByte Jz c<0)=true) :
   CW p (src.drop j)=(c::(CW (adv c p) (src.drop (j+1))).1,(CW (adv c p) (src.drop (j+1))).2):=by
 rw[Bc d,CW,if_pos h]
def EY(src:lU)(i j:Nat):lU:=(src.take j).drop i
theorem V4(src:lU)(i:Nat):EY src i i=[]:=by
 unfold EY;rw[List.drop_eq_nil_of_le (by simp;omega)]
theorem VH{src:lU}{i:Nat}{c:UInt8}(d:i≤j)(h:src[j]?=some c):EY src i (j+1)=EY src i j++[c]:=by
 obtain⟨D,he⟩:=List.getElem?_eq_some_iff.1 h;unfold EY;rw[List.take_succ_eq_append_getElem D,List.drop_append_of_le_length (by simp;omega),he]
theorem AS{src:lU}{i:Nat}{c:UInt8}(d:i<j)(h:src[i]?=some c):EY src i j=c::EY src (i+1) j:=by
 unfold EY;have:(src.take j)[i]?=some c:=by rw[List.getElem?_take,if_pos d,h]
 exact Bc this
theorem Ff(src:lU)(i j:Nat):(EY src i j).length≤src.length:=by
 unfold EY;simp only[List.length_drop,List.length_take];omega
section
variable{F i:Nat}{p:Ps}{src:lU}{c:UInt8}
theorem CA(r:lU):CH F p (c::r) =
   (if decide ((0:Int)≤Lib.indexByte ED c) then .ok ([],r,adv c p)
   else if (c.toNat:Int)==59 then .ok ([],Kq (adv c p) r)
   else if (c.toNat:Int)==40 then .ok ([⟨0,p.1,p.2,0,[]⟩],r,adv c p)
   else if (c.toNat:Int)==41 then .ok ([⟨1,p.1,p.2,0,[]⟩],r,adv c p)
   else if (c.toNat:Int)==34 then (match F3 p F (adv c p) [] r with
     |.error e=>.error e
     |.ok (tx,r',d)=>.ok ([⟨4,p.1,p.2,0,tx⟩],r',d))
   else (match Hw (c::(CW (adv c p) r).1) with
     |none=>.error p
     |some (k,nm,tx)=>.ok ([⟨k,p.1,p.2,nm,tx⟩],(CW (adv c p) r).2))):=rfl
theorem TQ(d:src[i]?=some c)(h:decide ((0:Int)≤Lib.indexByte ED c)=true):CH F p (src.drop i)=.ok ([],src.drop (i+1),adv c p):=by rw[Bc d,CA,if_pos h]
theorem Qf(d:src[i]?=some c)(h:decide ((0:Int)≤Lib.indexByte ED c)=false)(D:((c.toNat:Int)==59)=true):CH F p (src.drop i)=.ok ([],Kq (adv c p) (src.drop (i+1))):=by
 rw[Bc d,CA,if_neg (by rw[h];decide),if_pos D]
theorem Tx(d:src[i]?=some c)(h:decide ((0:Int)≤Lib.indexByte ED c)=false)(D:((c.toNat:Int)==59)=false)(G:((c.toNat:Int)==40)=true):CH F p (src.drop i)=.ok ([⟨0,p.1,p.2,0,[]⟩],src.drop (i+1),adv c p):=by
 rw[Bc d,CA,if_neg (by rw[h];decide),if_neg (by rw[D];decide),if_pos G]
theorem TN(d:src[i]?=some c)(h:decide ((0:Int)≤Lib.indexByte ED c)=false)(D:((c.toNat:Int)==59)=false)(G:((c.toNat:Int)==40)=false)(J:((c.toNat:Int)==41)=true):CH F p (src.drop i)=.ok ([⟨1,p.1,p.2,0,[]⟩],src.drop (i+1),adv c p):=by
 rw[Bc d,CA,if_neg (by rw[h];decide),if_neg (by rw[D];decide),if_neg (by rw[G];decide),if_pos J]
theorem Iv(d:src[i]?=some c)(h:decide ((0:Int)≤Lib.indexByte ED c)=false)(D:((c.toNat:Int)==59)=false)(G:((c.toNat:Int)==40)=false)(J:((c.toNat:Int)==41)=false)(K:((c.toNat:Int)==34)=true) :
   CH F p (src.drop i)=(match F3 p F (adv c p) [] (src.drop (i+1)) with
     |.error e=>.error e
     |.ok (tx,r',L)=>.ok ([⟨4,p.1,p.2,0,tx⟩],r',L)):=by
 rw[Bc d,CA,if_neg (by rw[h];decide),if_neg (by rw[D];decide),if_neg (by rw[G];decide),if_neg (by rw[J];decide),if_pos K]
theorem BH(d:src[i]?=some c)(h:decide ((0:Int)≤Lib.indexByte ED c)=false)(D:((c.toNat:Int)==59)=false)(G:((c.toNat:Int)==40)=false)(J:((c.toNat:Int)==41)=false)(K:((c.toNat:Int)==34)=false) :
   CH F p (src.drop i)=(match Hw (c::(CW (adv c p) (src.drop (i+1))).1) with
     |none=>.error p
     |some (k,nm,tx)=>.ok ([⟨k,p.1,p.2,nm,tx⟩],(CW (adv c p) (src.drop (i+1))).2)):=by
 rw[Bc d,CA,if_neg (by rw[h];decide),if_neg (by rw[D];decide),if_neg (by rw[G];decide),if_neg (by rw[J];decide),if_neg (by rw[K];decide)]
end
end Go.SP
namespace Go.SP
theorem Iu(F n:Nat)(p:Ps):DZ F n p []=.ok []:=by cases n <;> rfl
def Wn(t:List AB):Except Ps (List AB)→Except Ps (List AB)
 |.error e=>.error e
 |.ok l=>.ok (t++l)
theorem ZY(x:Except Ps (List AB)):Wn [] x=x:=by cases x <;> rfl
theorem EJ(F n:Nat)(p:Ps)(c:UInt8)(r:lU):DZ F (n+1) p (c::r)=(match CH F p (c::r) with
   |.error e=>.error e
   |.ok (t,r',d)=>match DZ F n d r' with
     |.error e=>.error e
     |.ok l=>.ok (t++l)):=rfl
variable {ot toks:List AB}{j n:Nat}{p1:Ps}
theorem Yr{F:Nat}{q e:Ps}{src:lU}{c:UInt8}(d:src[j]?=some c)(he:CH F q (src.drop j)=.error e):DZ F (n+1) q (src.drop j)=.error e:=by
 rw[Bc d] at he ⊢;rw[EJ,he]
theorem Vh{F:Nat}{q:Ps}{src d:lU}{c:UInt8}{x:Except Ps (List AB)}(D:src[j]?=some c)(h:CH F q (src.drop j)=.ok (ot,d,p1))
   (hm:x=Wn toks (DZ F (n+1) q (src.drop j))):x=Wn (toks++ot) (DZ F n p1 d):=by
 rw[Bc D] at h hm;rw[hm,EJ,h];simp only[]
 cases DZ F n p1 d with
 |error e=>rfl
 |ok l=>simp[Wn]
theorem Qz{F:Nat}{p:Ps}{l r:lU}(h:CH F p l=.ok (ot,r,p1)):ot.length≤1:=by
 cases l with
 |nil=>cases h
 |cons c r =>
   rw[CA] at h
   repeat' split at h
   all_goals first
     |(simp only[Except.ok.injEq,Prod.mk.injEq] at h;rw[← h.1];simp)
     |cases h
end Go.SP
namespace Go.Proofs.YtelmolopaolbcaaGreatDoor
open Go.SW Go.SP Go.RowKit Go.Proofs.Tryz
theorem NR(w:wO)(s:lU)(hlen:s.length≤100000)(d:EF (Bg s)=true) :
  Bq prog 144 #[S s,iV 10,iV 63] w λv w'=>((∃n,I0 s=some n∧v=.tuple #[iV n,.nilIface])∨(I0 s=none∧∃z,v=.tuple #[iV z,.iface 258 (iV 1)]))∧AU w w':=by
 rcases KP s with D|⟨r,rfl⟩
 ·
  rw[IK D] at d;obtain⟨F,G⟩:=GQ d;refine (QO w s hlen F G).mono ?_;rintro v w' ⟨⟨J,rfl⟩|⟨K,z,rfl⟩,h⟩
  · exact⟨.inl ⟨_,by rw[Q2 D d,if_pos J],C⟩,h⟩
  · exact⟨.inr ⟨by rw[Q2 D d,if_neg (by omega)],z,C⟩,h⟩
 ·
  rw[IM] at d;obtain⟨F,G⟩:=GQ d;refine (Si w r hlen F G).mono ?_;rintro v w' ⟨⟨J,rfl⟩|⟨K,z,rfl⟩,h⟩
  · exact⟨.inl ⟨_,by rw[Qd d,if_pos J],C⟩,h⟩
  · exact⟨.inr ⟨by rw[Qd d,if_neg (by omega)],z,C⟩,h⟩
theorem P6(w:wO)(G:Gl w)(s:lU)(hlen:s.length≤100000)(J:EF (Bg s)=true) :
  Bq prog 127 #[S s,iV 10,iV 63] w λv w'=>((∃n,I0 s=some n∧v=.tuple #[iV n,.nilIface])∨(I0 s=none∧∃z T u,v=.tuple #[iV z,.iface T u]))∧AU w w':=by
 have d:=AU.refl w;refine enter func127 C C C<|AT [] 11 [] (Ar _) (λ_=>A4 C (Ax wV C C) (NR _ s hlen J) ?_);rintro _ Q ⟨(⟨n,F,rfl⟩|⟨F,z,rfl⟩),h⟩;replace d:=d.trans h;have K:=h.size;exact AL [.sq _] 11 [] (Ar _) (λ_=>Ab C (I1 G5 C)<|AL [.sq _,.sq _] 13 [] (Ar _) (λ_=>Bp (Cn C (Ah C) (Ah C))<|⟨.inl ⟨n,F,C⟩,d⟩));replace d:=d.trans h;have L:=h.size;refine AL [.sq _] 11 [] (Ar _) (λ_=>Ab C (LG G5 C)<|AL [.sq _,.sq _] 10 [] (Ar _) (λ_=>A4 C (Ax uH C C) (Ru _ (G.ext d) _ s _ _ hlen) ?_));rintro _ U ⟨⟨eT,Y,rfl⟩,D⟩;replace d:=d.trans D;have O:=D.size;exact AL [.sq _,.sq _] 6 [] (Ar _) (λ_=>Bp (Cn C (Ah C) (Ah C))<|⟨.inr ⟨F,z,_,_,C⟩,d⟩)
theorem Yg(w:wO)(K:Gl w)(s:lU)(hlen:s.length≤100000) :
  Bq prog 103 #[S s] w λv w'=>((∃n,I0 s=some n∧v=.tuple #[iV n,iV 0])∨(I0 s=none∧∃e:Int,(e==0)=false∧v=.tuple #[iV 0,iV e]))∧AU w w':=by
 have d:=AU.refl w;refine enter func103 C C C<|AT [] 10 [] (Ar _) (λ_=>A4 C (Ax UO C C) (G7 _ s [45]) ?_);rintro _ Y ⟨rfl,F⟩;replace d:=d.trans F;have L:=F.size;refine A4 C (Ax Ww C C) (JO _ (Bg s) (by have:=FQ s;omega)) ?_;rintro _ Z ⟨rfl,G⟩;replace d:=d.trans G;have O:=G.size;refine AL [.sq _,.sq _] 3 [] (Ar _) (λ_=>sP 9 C (λD=>?_) (λD=>?_));replace D:=FE D;exact AT [.sq _] 9 [] (Ar _) (λ_=>Bp (Cn C (Ah C) (Ah C))<|⟨.inr ⟨by rw[I0,D];rfl,2,dC,C⟩,d⟩);replace D:=FO D;refine AT [.sq _] 6 [] (Ar _) (λ_=>A4 C (Ax xK C C) (P6 _ (K.ext d) s hlen D) ?_);rintro _ w3 ⟨(⟨n,J,rfl⟩|⟨J,z,eT,eV,rfl⟩),h⟩;replace d:=d.trans h;have Q:=h.size;exact AL [.sq _] 11 [] (Ar _) (λ_=>Ab C (I1 G5 C)<|AL [.sq _,.sq _] 13 [] (Ar _) (λ_=>Bp (Cn C (Ah C) (Ah C))<|⟨.inl ⟨n,J,C⟩,d⟩));replace d:=d.trans h;have U:=h.size;exact AL [.sq _] 11 [] (Ar _) (λ_=>Ab C (LG G5 C)<|AL [.sq _,.sq _] 11 [] (Ar _) (λ_=>Bp (Cn C (Ah C) (Ah C))<|⟨.inr ⟨J,4,dC,C⟩,d⟩))
def PFS:Prop:=∀(w:wO)(s a b:lU),Gl w→s.length≤100000→Ie s=some (a,b)→Bq prog 129 #[S s,iV 64] w λv w'=>v=.tuple #[.float .f64 (MC (Pz s) a b),.nilIface]∧AU w w'
theorem vD:Extern.findNext Tryz.f149=none:=kR
theorem sM:Extern.find Tryz.f149=some Extern.MathFloatBits.float64bits:=kR
theorem UW(w:wO)(f:Nat) :
  Bq prog 148 #[.float .f64 f] w λv w'=>v=.bool (!(Op.floatEq .f64 f f))∧AU w w':=by
 have d:=AU.refl w;exact enter func148 C C C<|AT [] 9 [] (Ar _) (λ_=>Ab C (rJ C C)<|AL [.sq _] 4 [] (Ar _) (λ_=>Bp (AE C (Ah C))<|⟨C,d⟩))
theorem jQ(w:wO)(f:Nat) :
  Bq prog 130 #[.float .f64 f] w λv w'=>v=.int .u64 ((if Op.floatEq .f64 f f then f else 9221120237041090560:Nat):Int)∧AU w w':=by
 have D:=AU.refl w;refine enter func130 C C C<|AT [] 9 [] (Ar _) (λ_=>A4 C (Ax wG C C) (UW _ f) ?_);rintro _ J ⟨rfl,d⟩;replace D:=D.trans d;have G:=d.size;refine AL [.sq _,.sq _] 2 [] (Ar _) (λ_=>sP 4 C (λF=>?_) (λF=>?_));refine AT [.sq _] 8 [] (Ar _) (λ_=>Bp (AE C (Ah C))<|⟨?_,D⟩);have h:=F;simp at h;simp[h];refine AT [.sq _] 6 [] (Ar _) (λ_=>Ab C (gS func149 C C vD sM C C C)<|AL [.sq _] 4 [] (Ar _) (λ_=>Bp (AE C (Ah C))<|⟨?_,D⟩));have h:=F;simp at h;simp[h]
theorem N0(Y:PFS)(w:wO)(hG:Gl w)(s:lU)(hlen:s.length≤100000) :
  Bq prog 104 #[S s] w λv w'=>((∃x:Nat,IN s=some x∧v=.tuple #[.int .u64 (x:Int),iV 0])∨(IN s=none∧∃e:Int,(e==0)=false∧v=.tuple #[.int .u64 0,iV e]))∧AU w w':=by
 have hcl1:=S9 (Bg s) [46];have hcl2:=SQ (Bg s) [46];have hwl:=FQ s;have d:=AU.refl w;refine enter func104 C C C<|AT [] 9 [] (Ar _) (λ_=>A4 C (Ax UO C C) (G7 _ s [45]) ?_);rintro _ w1 ⟨rfl,J⟩;replace d:=d.trans J;have sz1:=J.size;refine A4 C (Ax xO C C) (dR _ (hG.ext d) (Bg s) [46] (by have:=FQ s;omega)) ?_;rintro _ w2 ⟨rfl,K⟩;replace d:=d.trans K;have sz2:=K.size;refine AL [.sq _] 16 [] (Ar _) (λ_=>sL 19 C (λD=>?_) (λD=>?_));replace D:=FE D;refine AL [.sq _,.bk _,.sq _] 22 [] (Ar _) (λ_=>Bp (Cn C (Ah C) (Ah C))<|⟨.inr ⟨?_,2,dC,C⟩,d⟩);rw[IN,Ie,if_neg];simp[D];replace D:=FO D;refine AL [.sq _,.bk _,.sq _] 1 [] (Ar _) (λ_=>B7 C C C<|A4 C (Ax Ww C C) (JO _ (Lib.cut (Bg s) [46]).1 (by have:=S9 (Bg s) [46];have:=FQ s;omega)) ?_);rintro _ w3 ⟨rfl,L⟩;replace d:=d.trans L;have sz3:=L.size;refine AL [.sq _,.bk _,.sq _] 3 [] (Ar _) (λ_=>sL 24 C (λF=>?_) (λF=>?_));replace F:=FE F;refine AL [.sq _,.bk _,.sq _] 17 [] (Ar _) (λ_=>Bp (Cn C (Ah C) (Ah C))<|⟨.inr ⟨?_,2,dC,C⟩,d⟩);rw[IN,Ie,if_neg];simp[D,F];replace F:=FO F;refine AL [.sq _,.bk _,.sq _] 1 [] (Ar _) (λ_=>B7 C C C<|A4 C (Ax Ww C C) (JO _ (Lib.cut (Bg s) [46]).2.1 (by have:=SQ (Bg s) [46];have:=FQ s;omega)) ?_);rintro _ w4 ⟨rfl,O⟩;replace d:=d.trans O;have sz4:=O.size;refine AL [.sq _,.bk _,.sq _] 5 [] (Ar _) (λ_=>sP 16 C (λG=>?_) (λG=>?_));replace G:=FE G;refine AT [.bk _,.sq _] 10 [] (Ar _) (λ_=>Bp (Cn C (Ah C) (Ah C))<|⟨.inr ⟨?_,2,dC,C⟩,d⟩);rw[IN,Ie,if_neg];simp[D,F,G];replace G:=FO G;refine AT [.bk _,.sq _] 12 [] (Ar _) (aI ⟨oM,oM⟩<|λ_=>sP 29 C (λZ=>?_) (λZ=>?_));refine AT [.bk _,.sq _] 10 [] (Ar _) (λ_=>Bp (Cn C (Ah C) (Ah C))<|⟨.inr ⟨?_,4,dC,C⟩,d⟩);rw[IN,Ie,if_neg];have h9:=Z;simp at h9;simp[D,F,G] <;> omega
 refine AT [.bk _,.sq _] 5 [] (Ar _) (λ_=>?_)
 have h:Ie s=some ((Lib.cut (Bg s) [46]).1,(Lib.cut (Bg s) [46]).2.1):=by
  unfold Ie;rw[if_pos];have h9:=Z;simp at h9;simp[D,F,G] <;> omega
 refine AT [.sq _] 2 [] (Ar _) (λ_=>A4 C (Ax rS C C) (Y _ s _ _ (hG.ext d) hlen h) ?_);rintro _ w5 ⟨rfl,Q⟩;replace d:=d.trans Q;have sz5:=Q.size;refine AL [.sq _] 11 [] (Ar _) (λ_=>Ab C (I1 G5 C)<|AL [.sq _,.sq _] 8 [] (Ar _) (λ_=>A4 C (Ax tX C C) (jQ _ _) ?_));rintro _ w6 ⟨rfl,U⟩;replace d:=d.trans U;have sz6:=U.size;exact AL [.sq _] 5 [] (Ar _) (λ_=>Bp (Cn C (Ah C) (Ah C))<|⟨.inl ⟨_,by rw[IN,h],C⟩,d⟩)
theorem Wm(w:wO)(x:Nat) :
  Bq prog 105 #[.int .u64 (x:Int)] w λv w'=>v=S (Ot x)∧AU w w':=by
 have h:=AU.refl w;refine enter func105 C C C<|AT [] 17 [] (Ar _) (λ_=>?_);refine DU (λk σ ds w'=>∃(j:Nat)(acc:lU)(K:oA)(rc:Nat),k=j∧ds=[]∧σ=(E3 0 (.int .u64 (x:Int)) 3 (.slice K acc.length rc) 4 (iV (8*(j:Int)-8)))∧j≤8∧Ot x=acc++Ql x j∧acc.length+j=8∧BX w' 5 1 K rc acc.length (bC acc)∧(∀y,rb K=some y→w.heap.size≤y)∧AU w w') 8 (E3 0 (.int .u64 (x:Int)) 3 (.slice none 0 0) 4 (iV (8*((8:Nat):Int)-8))) lE ⟨8,[],none,0,C,C,C,Nat.le_refl _,C,C,Gf _ _ _,(λy Q=>by cases Q),h⟩ ?_;rintro j _ _ wl ⟨_,acc,K,rc,rfl,rfl,rfl,hj,hm,hal,d,D,h⟩;have szl:=h.size;have U:∀y,rb K=some y→y<wl.heap.size:=λy Q=>d.lt Q;refine AT [] 7 [] (Ar _) (λ_=>sP 6 C (λY=>?_) (λY=>?_));refine AT [.sq _] 9 [] (Ar _) (λ_=>?_);obtain⟨j,rfl⟩:∃j1,j=j1+1:=⟨j-1,by have:=dT Y;omega⟩;refine Ab C (WV ((x / 2 ^ (8*j):Nat):Int) C C oM (by rw[show (8*((j+1:Nat):Int)-8).toNat=8*j by omega,show min (8*j) IntKind.u64.bits=8*j by simp[IntKind.bits];omega];exact Tb _ _))<|Ab C (BJ (m:=((UInt8.ofNat (x / 2 ^ (8*j))).toNat:Int)) C kJ (OH _))<|Ch C C nI zr5 C C C C C λb1 w1 Z L hs1 hz1=>?_;replace d:=d.ext L;replace h:=h.trans L;refine Bb C uE C C C C d Z C C oM oM λF O w2 hr2 hG=>?_;have G:∀y,rb F=some y→w.heap.size≤y:=BU hG D oM;replace h:=h.grow hG D;refine AL [.bk _,.sq _] 9 [] (Ar _) (aI ⟨oM,oM⟩<|λ_=>?_);have J:acc.length+1=(acc++[UInt8.ofNat (x / 2 ^ (8*j))]).length:=by simp
 refine HF j (E3 0 (.int .u64 (x:Int)) 3 (.slice F (acc++[UInt8.ofNat (x / 2 ^ (8*j))]).length O) 4 (iV (8*(j:Int)-8))) oM (lu3 C (J▸rfl) (congrArg (λz:Int=>some (Value.int .i64 z)) (show (8*((j+1:Nat):Int)-8)-8=8*(j:Int)-8 by omega))) ⟨j,acc++[UInt8.ofNat (x / 2 ^ (8*j))],F,O,C,C,C,oM,by rw[hm];simp[Ql],by rw[← J];omega,by rw[← J,bC_app];exact hr2,G,h⟩;refine AT [.sq _] 3 [] (Ar _) (λ_=>OJ<|K5 [.bk _,.sq _] 5 [] (Ar _) (λ_=>Ab C (Mj C Xx d)<|AL [.sq _] 4 [] (Ar _) (λ_=>Bp (AE C (Ah C)) ?_)));have hj0:j=0:=by have:=dF Y;omega
 subst hj0;exact⟨by rw[hm];simp[Ql],h⟩
theorem Fb(hPF:PFS)(w:wO)(hG:Gl w)(s:lU)(hlen:s.length≤100000)(hne:s≠[])(at1:Ps) :
  BI prog 77 #[S s,.agg #[iV at1.1,iV at1.2]] w (λv w'=>∃k nm tx,Hw s=some (k,nm,tx)∧v=.agg #[iV k,iV at1.1,iV at1.2,iV nm,S tx]∧AU w w') (λc w'=>Hw s=none∧c=Sn 103 at1∧AU w w'):=by
 have G:(1:Int)≤s.length:=by
  cases s with
  |nil=>exact absurd C hne
  |cons a r=>simp only[List.length_cons];omega
 have D:=AU.refl w;refine IV func77 C C C<|AT [] 2 [] (Ar _) (λ_=>Ei C C C λb1 w1 d hE1 hs1 hz1=>?_);replace D:=D.trans hE1;refine CI C D7 λb2 w2 h hE2 hs2 hz2=>?_;replace d:=d.ext hE2;replace D:=D.trans hE2;refine AL [.sq _] 6 [] (Ar _) (λ_=>A4 C (Ax uC C C) (Yg _ (hG.ext D) s hlen) ?_);rintro _ w3 ⟨(⟨n,J,rfl⟩|⟨J,er,her,rfl⟩),L⟩;replace d:=d.ext L;replace h:=h.ext L;replace D:=D.trans L;have sz1:=L.size;refine AL [.sq _,.sq _] 19 [0,0] (kB d (Ar _)) (y2<|λ_=>A1 C C C DY C h C C λw4 hb3 hC1=>?_);replace d:=d.chg hC1 oM;replace D:=D.chg hC1 oM;have sz2:=hC1.size;exact AL [.sq _,.sq _] 4 [] (Ar _) (λ_=>Bp (AE C (Ac C DY hb3 C))<|⟨2,n,[],by rw[Hw,J],C,D⟩);replace d:=d.ext L;replace h:=h.ext L;replace D:=D.trans L;have sz3:=L.size;refine AL [.sq _,.sq _] 13 [] (Ar _) (λ_=>kP 16 false C her<|AT [.sq _] 7 [] (Ar _) (λ_=>A4 C (Ax xM C C) (N0 hPF _ (hG.ext D) s hlen) ?_));rintro _ w5 ⟨(⟨x,K,rfl⟩|⟨K,ef,hef,rfl⟩),O⟩;replace d:=d.ext O;replace h:=h.ext O;replace D:=D.trans O;have sz4:=O.size;refine AL [.sq _,.sq _] 15 [] (Ar _) (λ_=>?_);have hr1:=d;refine DX mixed (A5 w5 [b1]) [(true,0),(true,1),(false,2),(true,3),(false,4)] kR kR C C λw6 hE5 hz3=>?_;have Z:A5 w5 [b1] w6:=A5.cons hr1 hE5 (A5.nil _ _);refine⟨Z,?_⟩;replace d:=d.ext hE5;replace h:=h.ext hE5;replace D:=D.trans hE5;refine A0 C (λ_ hS=>Di C Jl (hr1.keep hS (.head _)) C)<|A0 C (λ_ hS=>Az C)<|EK<|A4 C (Ax tL C C) (Wm _ x) ?_;rintro _ w7 ⟨rfl,hE6⟩;replace d:=d.ext hE6;replace h:=h.ext hE6;replace D:=D.trans hE6;replace Z:=Z.ext hE6;have sz5:=hE6.size;refine Ae (Hn Z<|A0 C (λ_ hS=>DC C Ui D7 C)<|EK<|A1 C C C DY C h C C λw8 hb4 hC2=>?_);replace d:=d.chg hC2 oM;replace D:=D.chg hC2 oM;replace Z:=Z.chg hC2 nM;have sz6:=hC2.size;exact Ae (Hn Z<|El<|K5 [.sq _,.sq _] 3 [] (Ar _) (λ_=>Bp (AE C (Ac C DY hb4 C))<|⟨3,0,Ot x,by rw[Hw,J];simp only[K],C,D⟩));replace d:=d.ext O;replace h:=h.ext O;replace D:=D.trans O;have sz7:=O.size;refine AL [.sq _,.sq _] 13 [] (Ar _) (λ_=>kP 26 false C hef<|AT [.sq _] 6 [] (Ar _) (λ_=>A4 C (Ax UO C C) (G7 _ s [45]) ?_));rintro _ w9 ⟨rfl,hE7⟩;replace d:=d.ext hE7;replace h:=h.ext hE7;replace D:=D.trans hE7;have sz8:=hE7.size;refine AL [.sq _] 11 [] (Ar _) (λ_=>sL 37 C (λQ=>?_) (λQ=>?_));exact AL [.sq _,.bk _,.sq _] 17 [0,0] (kB d (Ar _)) (y2<|λ_=>Ab C (BR C Gs)<|Cl (BE C) (aI C<|⟨by rw[CB J K,Q];rfl,C,D⟩));refine AL [.sq _,.bk _,.sq _] 3 [] (Ar _) (λ_=>sL 40 C (λY=>?_) (λY=>?_));refine AL [.sq _,.bk _,.sq _] 1 [] (Ar _) (λ_=>B7 C C C<|A4 C (Ax FY C C) (CJ _ (Bg s) (by have:=FQ s;omega) Gy dC dC) ?_);rintro _ w10 ⟨rfl,hE8⟩;replace d:=d.ext hE8;replace h:=h.ext hE8;replace D:=D.trans hE8
 have sz9:=hE8.size;refine AL [.sq _,.bk _,.sq _] 5 [] (Ar _) (λ_=>sP 33 C (λh3=>?_) (λh3=>?_));refine AT [.bk _,.sq _] 7 [0,0] (kB d (Ar _)) (y2<|λ_=>Ab C (BR C Gs)<|Cl (BE C) (aI C ?_));have F:(!(Bg s==[]))=true:=Y;exact⟨by rw[CB J K,Q,F,h3];rfl,C,D⟩;refine AT [.bk _,.sq _] 4 [] (Ar _) (λ_=>Ab C (Ip C C JQ ⟨dC,G⟩)<|A4 C (Ax FY C C) (CJ _ (s.take 1) (by simp only[List.length_take];omega) F6 dC dC) ?_);rintro _ w11 ⟨rfl,hE9⟩;replace d:=d.ext hE9;replace h:=h.ext hE9;replace D:=D.trans hE9;have sz10:=hE9.size;refine Ab C (Az C)<|sL 49 C (λh4=>?_) (λh4=>?_);refine AL [.sq _,.bk _,.sq _] 1 [] (Ar _) (λ_=>B7 C C C<|A4 C (Ax FY C C) (CJ _ (s) oM (F6++Ev++Gy) dC dC) ?_);rintro _ w12 ⟨rfl,hE10⟩;replace d:=d.ext hE10;replace h:=h.ext hE10;replace D:=D.trans hE10;have sz11:=hE10.size;refine AL [.sq _,.bk _,.sq _] 4 [] (Ar _) (λ_=>sP 45 C (λh5=>?_) (λh5=>?_));refine AT [.bk _,.sq _] 6 [0,0] (kB d (Ar _)) (y2<|λ_=>A1 C C C DY C h C C λw13 hb5 hC3=>?_);replace d:=d.chg hC3 oM;replace D:=D.chg hC3 oM;have sz12:=hC3.size;refine AL [.sq _,.bk _,.sq _] 5 [] (Ar _) (λ_=>Bp (AE C (Ac C DY hb5 C)) ?_);have F:(!(Bg s==[]))=true:=Y;exact⟨6,0,s,by rw[CB J K,Q,F,h3,h4,h5];rfl,C,D⟩;refine AT [.bk _,.sq _] 4 [] (Ar _) (λ_=>Ab C (Ip C C JQ ⟨dC,G⟩)<|A4 C (Ax FY C C) (CJ _ (s.take 1) (by simp only[List.length_take];omega) (Ev++GA) dC dC) ?_);rintro _ w14 ⟨rfl,hE11⟩;replace d:=d.ext hE11;replace h:=h.ext hE11;replace D:=D.trans hE11;have sz13:=hE11.size;refine Ab C (Az C)<|sL 60 C (λh6=>?_) (λh6=>?_);refine AL [.sq _,.bk _,.sq _] 1 [] (Ar _) (λ_=>B7 C C C<|A4 C (Ax FY C C) (CJ _ (s) oM (F6++Ev++Gy++GA) dC dC) ?_);rintro _ w15 ⟨rfl,hE12⟩;replace d:=d.ext hE12;replace h:=h.ext hE12;replace D:=D.trans hE12;have sz14:=hE12.size;refine AL [.sq _,.bk _,.sq _] 4 [] (Ar _) (λ_=>sP 56 C (λh7=>?_) (λh7=>?_));refine AT [.bk _,.sq _] 6 [0,0] (kB d (Ar _)) (y2<|λ_=>A1 C C C DY C h C C λw16 hb6 hC4=>?_);replace d:=d.chg hC4 oM;replace D:=D.chg hC4 oM;have sz15:=hC4.size;refine AL [.sq _,.bk _,.sq _] 5 [] (Ar _) (λ_=>Bp (AE C (Ac C DY hb6 C)) ?_);have F:(!(Bg s==[]))=true:=Y;exact⟨5,0,s,by rw[CB J K,Q,F,h3,h4,h5,h6,h7];rfl,C,D⟩;refine AT [.bk _,.sq _] 7 [0,0] (kB d (Ar _)) (y2<|λ_=>Ab C (BR C Gs)<|Cl (BE C) (aI C ?_));have F:(!(Bg s==[]))=true:=Y;exact⟨by rw[CB J K,Q,F,h3,h4,h5,h6,h7];rfl,C,D⟩;refine AL [.sq _,.bk _,.sq _] 13 [0,0] (kB d (Ar _)) (y2<|λ_=>Ab C (BR C Gs)<|Cl (BE C) (aI C ?_));have F:(!(Bg s==[]))=true:=Y;exact⟨by rw[CB J K,Q,F,h3,h4,h5,h6];rfl,C,D⟩;refine AL [.sq _,.bk _,.sq _] 10 [] (Ar _) (λ_=>Ab C (Ip C C JQ ⟨dC,G⟩)<|A4 C (Ax FY C C) (CJ _ (s.take 1) (by simp only[List.length_take];omega) (Ev++GA) dC dC) ?_)
 rintro _ w17 ⟨rfl,hE13⟩;replace d:=d.ext hE13;replace h:=h.ext hE13;replace D:=D.trans hE13;have sz16:=hE13.size;refine Ab C (Az C)<|sL 60 C (λh8=>?_) (λh8=>?_);refine AL [.sq _,.bk _,.sq _] 1 [] (Ar _) (λ_=>B7 C C C<|A4 C (Ax FY C C) (CJ _ (s) oM (F6++Ev++Gy++GA) dC dC) ?_);rintro _ w18 ⟨rfl,hE14⟩;replace d:=d.ext hE14;replace h:=h.ext hE14;replace D:=D.trans hE14;have sz17:=hE14.size;refine AL [.sq _,.bk _,.sq _] 4 [] (Ar _) (λ_=>sP 56 C (λh9=>?_) (λh9=>?_));refine AT [.bk _,.sq _] 6 [0,0] (kB d (Ar _)) (y2<|λ_=>A1 C C C DY C h C C λw19 hb7 hC5=>?_);replace d:=d.chg hC5 oM;replace D:=D.chg hC5 oM;have sz18:=hC5.size;refine AL [.sq _,.bk _,.sq _] 5 [] (Ar _) (λ_=>Bp (AE C (Ac C DY hb7 C)) ?_);have F:(!(Bg s==[]))=true:=Y;exact⟨5,0,s,by rw[CB J K,Q,F,h3,h4,h8,h9];rfl,C,D⟩;refine AT [.bk _,.sq _] 7 [0,0] (kB d (Ar _)) (y2<|λ_=>Ab C (BR C Gs)<|Cl (BE C) (aI C ?_));have F:(!(Bg s==[]))=true:=Y;exact⟨by rw[CB J K,Q,F,h3,h4,h8,h9];rfl,C,D⟩;refine AL [.sq _,.bk _,.sq _] 13 [0,0] (kB d (Ar _)) (y2<|λ_=>Ab C (BR C Gs)<|Cl (BE C) (aI C ?_));have F:(!(Bg s==[]))=true:=Y;exact⟨by rw[CB J K,Q,F,h3,h4,h8];rfl,C,D⟩;refine AL [.sq _,.bk _,.sq _] 11 [] (Ar _) (λ_=>Ab C (Ip C C JQ ⟨dC,G⟩)<|A4 C (Ax FY C C) (CJ _ (s.take 1) (by simp only[List.length_take];omega) F6 dC dC) ?_);rintro _ w20 ⟨rfl,hE15⟩;replace d:=d.ext hE15;replace h:=h.ext hE15;replace D:=D.trans hE15;have sz19:=hE15.size;refine Ab C (Az C)<|sL 49 C (λU=>?_) (λU=>?_);refine AL [.sq _,.bk _,.sq _] 1 [] (Ar _) (λ_=>B7 C C C<|A4 C (Ax FY C C) (CJ _ (s) oM (F6++Ev++Gy) dC dC) ?_);rintro _ w21 ⟨rfl,hE16⟩;replace d:=d.ext hE16;replace h:=h.ext hE16;replace D:=D.trans hE16;have sz20:=hE16.size;refine AL [.sq _,.bk _,.sq _] 4 [] (Ar _) (λ_=>sP 45 C (λh11=>?_) (λh11=>?_));refine AT [.bk _,.sq _] 6 [0,0] (kB d (Ar _)) (y2<|λ_=>A1 C C C DY C h C C λw22 hb8 hC6=>?_);replace d:=d.chg hC6 oM;replace D:=D.chg hC6 oM;have sz21:=hC6.size;refine AL [.sq _,.bk _,.sq _] 5 [] (Ar _) (λ_=>Bp (AE C (Ac C DY hb8 C)) ?_);have F:(!(Bg s==[]))=false:=Y;exact⟨6,0,s,by rw[CB J K,Q,F,U,h11];rfl,C,D⟩;refine AT [.bk _,.sq _] 4 [] (Ar _) (λ_=>Ab C (Ip C C JQ ⟨dC,G⟩)<|A4 C (Ax FY C C) (CJ _ (s.take 1) (by simp only[List.length_take];omega) (Ev++GA) dC dC) ?_);rintro _ w23 ⟨rfl,hE17⟩;replace d:=d.ext hE17;replace h:=h.ext hE17;replace D:=D.trans hE17;have sz22:=hE17.size;refine Ab C (Az C)<|sL 60 C (λh12=>?_) (λh12=>?_);refine AL [.sq _,.bk _,.sq _] 1 [] (Ar _) (λ_=>B7 C C C<|A4 C (Ax FY C C) (CJ _ (s) oM (F6++Ev++Gy++GA) dC dC) ?_);rintro _ w24 ⟨rfl,hE18⟩;replace d:=d.ext hE18;replace h:=h.ext hE18;replace D:=D.trans hE18;have sz23:=hE18.size
 refine AL [.sq _,.bk _,.sq _] 4 [] (Ar _) (λ_=>sP 56 C (λh13=>?_) (λh13=>?_));refine AT [.bk _,.sq _] 6 [0,0] (kB d (Ar _)) (y2<|λ_=>A1 C C C DY C h C C λw25 hb9 hC7=>?_);replace d:=d.chg hC7 oM;replace D:=D.chg hC7 oM;have sz24:=hC7.size;refine AL [.sq _,.bk _,.sq _] 5 [] (Ar _) (λ_=>Bp (AE C (Ac C DY hb9 C)) ?_);have F:(!(Bg s==[]))=false:=Y;exact⟨5,0,s,by rw[CB J K,Q,F,U,h11,h12,h13];rfl,C,D⟩;refine AT [.bk _,.sq _] 7 [0,0] (kB d (Ar _)) (y2<|λ_=>Ab C (BR C Gs)<|Cl (BE C) (aI C ?_));have F:(!(Bg s==[]))=false:=Y;exact⟨by rw[CB J K,Q,F,U,h11,h12,h13];rfl,C,D⟩;refine AL [.sq _,.bk _,.sq _] 13 [0,0] (kB d (Ar _)) (y2<|λ_=>Ab C (BR C Gs)<|Cl (BE C) (aI C ?_));have F:(!(Bg s==[]))=false:=Y;exact⟨by rw[CB J K,Q,F,U,h11,h12];rfl,C,D⟩;refine AL [.sq _,.bk _,.sq _] 10 [] (Ar _) (λ_=>Ab C (Ip C C JQ ⟨dC,G⟩)<|A4 C (Ax FY C C) (CJ _ (s.take 1) (by simp only[List.length_take];omega) (Ev++GA) dC dC) ?_);rintro _ w26 ⟨rfl,hE19⟩;replace d:=d.ext hE19;replace h:=h.ext hE19;replace D:=D.trans hE19;have sz25:=hE19.size;refine Ab C (Az C)<|sL 60 C (λh14=>?_) (λh14=>?_);refine AL [.sq _,.bk _,.sq _] 1 [] (Ar _) (λ_=>B7 C C C<|A4 C (Ax FY C C) (CJ _ (s) oM (F6++Ev++Gy++GA) dC dC) ?_);rintro _ w27 ⟨rfl,hE20⟩;replace d:=d.ext hE20;replace h:=h.ext hE20;replace D:=D.trans hE20;have sz26:=hE20.size;refine AL [.sq _,.bk _,.sq _] 4 [] (Ar _) (λ_=>sP 56 C (λh15=>?_) (λh15=>?_));refine AT [.bk _,.sq _] 6 [0,0] (kB d (Ar _)) (y2<|λ_=>A1 C C C DY C h C C λw28 hb10 hC8=>?_);replace d:=d.chg hC8 oM;replace D:=D.chg hC8 oM;have sz27:=hC8.size;refine AL [.sq _,.bk _,.sq _] 5 [] (Ar _) (λ_=>Bp (AE C (Ac C DY hb10 C)) ?_);have F:(!(Bg s==[]))=false:=Y;exact⟨5,0,s,by rw[CB J K,Q,F,U,h14,h15];rfl,C,D⟩;refine AT [.bk _,.sq _] 7 [0,0] (kB d (Ar _)) (y2<|λ_=>Ab C (BR C Gs)<|Cl (BE C) (aI C ?_));have F:(!(Bg s==[]))=false:=Y;exact⟨by rw[CB J K,Q,F,U,h14,h15];rfl,C,D⟩;refine AL [.sq _,.bk _,.sq _] 13 [0,0] (kB d (Ar _)) (y2<|λ_=>Ab C (BR C Gs)<|Cl (BE C) (aI C ?_));have F:(!(Bg s==[]))=false:=Y;exact⟨by rw[CB J K,Q,F,U,h14];rfl,C,D⟩
theorem Yb(hPF:PFS)(w0 w:wO)(hG:Gl w0)(hX0:AU w0 w)(b:Nat)(hb0:w0.heap.size≤b)(src:lU)(i:Nat)(p:Ps)(toks:List AB)(ta:oA)(tc:Nat)(hsc:AM w b [S src,iV ((i:Nat):Int),iV p.1,iV p.2,(.slice ta toks.length tc)] 106)(h:BX w 108 5 ta tc toks.length (Fw toks))(F:∀x,rb ta=some x→w0.heap.size≤x∧x≠b)(c:UInt8)(Z:src[i]?=some c)(hp:Pk i p)(hlen:src.length≤65536)(htl:toks.length≤i) :
  BI prog 39 #[pB b] w (λv w'=>∃(ot:List AB)(i1:Nat)(p1:Ps)(ta1:oA)(tc1:Nat),CH (src.length+1) p (src.drop i)=.ok (ot,src.drop i1,p1)∧v=.tuple #[]∧AM w' b [S src,iV ((i1:Nat):Int),iV p1.1,iV p1.2,(.slice ta1 (toks++ot).length tc1)] 106∧BX w' 108 5 ta1 tc1 (toks++ot).length (Fw (toks++ot))∧(∀x,rb ta1=some x→w0.heap.size≤x∧x≠b)∧AU w0 w'∧i<i1∧i1≤src.length∧Pk i1 p1) (λcc w'=>∃e,CH (src.length+1) p (src.drop i)=.error e∧cc=Sn 103 e∧AU w0 w'):=by
 have hbl:=hsc.lt;have hilt:=Cj Z;have O:∀x,rb ta=some x→x<w.heap.size:=λx hx=>h.lt hx;have K:=hX0;refine IV func39 C C C<|BW ?_;have hr1:=hsc;refine DX mixed (A5 w [b]) [(true,0),(true,1),(true,2),(true,3),(true,4),(true,5),(true,6),(true,7),(false,8),(false,9),(true,10)] kR kR C C λw1 hE1 hz1=>?_;have d:A5 w [b] w1:=A5.cons hr1 hE1 (A5.nil _ _);refine⟨d,?_⟩;replace hsc:=hsc.ext hE1;replace h:=h.ext hE1;replace K:=K.trans hE1;refine A0 C (λ_ U=>Az C)<|A0 C (λ_ U=>Bv C)<|A0 C (λ_ U=>BF C QX)<|A0 C (λ_ U=>Di C Jl (hr1.keep U (.head _)) C)<|A0 C (λ_ U=>Az C)<|A0 C (λ_ U=>Bv C)<|A0 C (λ_ U=>BF C F4)<|A0 C (λ_ U=>Ai C UR (hr1.keep U (.head _)) C)<|EK<|CI C U4 λb1 w2 hb1 hE2 hs1 hz2=>?_;replace hsc:=hsc.ext hE2;replace h:=h.ext hE2;replace K:=K.trans hE2;replace d:=d.ext hE2;refine Ae (Hn d<|EK<|A1 C C C Jl C hb1 C C λw3 hb2 hC1=>?_);replace hsc:=hsc.chg hC1 oM;replace h:=BX.chg h hC1 (λe=>by have:=F _ e;have:=O _ e;omega);replace K:=K.chg hC1 oM;replace d:=d.chg hC1 nM;have sz1:=hC1.size;refine Ae (Hn d<|A0 C (λ_ U=>De C)<|El<|K5 [.sq _] 4 [] (Ar _) (λ_=>A4 C (Ax N5 C C) (FZ _ b src i p (.slice ta toks.length tc) hsc c Z oM hp) ?_));rintro _ w4 ⟨rfl,hb3,hE3⟩;replace h:=BX.exb h hE3 (λe=>by have:=F _ e;omega);replace hb2:=hb2.exb hE3 oM;replace K:=hE3.ext K hb0;have sz2:=hE3.size;have hp1:=Pk.adv (c:=c) hp;refine AL [.sq _] 7 [] (Ar _) (λ_=>A4 C (Ax Xu C C) (Fp _ ED _) ?_);rintro _ w5 ⟨rfl,hE4⟩;replace h:=h.ext hE4;replace hb2:=hb2.ext hE4;replace hb3:=hb3.ext hE4;replace K:=K.trans hE4;have sz3:=hE4.size;refine AL [.sq _,.bk _] 4 [] (Ar _) (λ_=>sP 53 C (λh1=>?_) (λh1=>?_));exact AT [.bk _] 3 [] (Ar _) (λ_=>G6 (DL C)<|⟨[],i+1,adv c p,ta,tc,TQ Z h1,C,by rw[List.append_nil];exact hb3,by rw[List.append_nil];exact h,F,K,oM,by have:=Cj Z;omega,hp1⟩);refine AT [.bk _] 8 [] (Ar _) (λ_=>sP 57 C (λh2=>?_) (λh2=>?_));refine AT [.bk _] 2 [] (Ar _) (λ_=>?_);refine DU (λk σ ds w'=>∃(j:Nat)(q:Ps),k=src.length-j∧ds=[]∧σ=(AF SW.e0 0 (pB b))∧i<j∧j≤src.length∧Pk j q∧Kq (adv c p) (src.drop (i+1))=Kq q (src.drop j)∧AM w' b [S src,iV ((j:Nat):Int),iV q.1,iV q.2,(.slice ta toks.length tc)] 106∧AM w' b1 [iV p.1,iV p.2] 27 ∧ BX w' 108 5 ta tc toks.length (Fw toks)∧AU w0 w') (src.length-(i+1)) (AF SW.e0 0 (pB b)) lE ⟨i+1,adv c p,C,C,C,oM,by have:=Cj Z;omega,hp1,C,hb3,hb2,h,K⟩ ?_;rintro _ _ _ wl ⟨j,q,rfl,rfl,rfl,hij,hjl,hq,hm,D,J,h,K⟩;have szl:=K.size;have lt2:=J.lt;have lts:=D.lt;refine AT [] 2 [] (Ar _) (λ_=>?_);have Q:=D;have hr3:=J;refine DX mixed (A5 wl [b,b1]) [(true,0),(false,1),(true,2),(true,3),(true,4),(true,5),(true,6),(true,7),(true,8),(true,9),(true,10),(true,11),(true,12),(true,13)] kR kR C C λw6 hE5 hz3=>?_
 have d:A5 wl [b,b1] w6:=A5.cons Q hE5 (A5.cons hr3 hE5 (A5.nil _ _));refine⟨d,?_⟩;replace D:=D.ext hE5;replace J:=J.ext hE5;replace h:=h.ext hE5;replace K:=K.trans hE5;refine A0 C (λ_ U=>Az C)<|EK<|A4 C (Ax Tm C C) (Iz _ b src j q (.slice ta toks.length tc) D) ?_;rintro _ w7 ⟨rfl,hE6⟩;replace D:=D.ext hE6;replace J:=J.ext hE6;replace h:=h.ext hE6;replace K:=K.trans hE6;replace d:=d.ext hE6;have sz4:=hE6.size;refine Ae (Hn d<|A0 C (λ_ U=>Az C)<|PV 62 C (λh3=>?_) (λh3=>?_));have hjlt:j<src.length:=by have:=dT h3;omega
 obtain⟨c1,hc1⟩:=K2 hjlt;refine C9 C C C h3 (λ_ U=>Az C)<|C9 C C C h3 (λ_ U=>Bv C)<|C9 C C C h3 (λ_ U=>BF C HK)<|C9 C C C h3 (λ_ U=>Ai C ZB (Q.keep U (.head _)) C)<|C9 C C C h3 (λ_ U=>Az C)<|C9 C C C h3 (λ_ U=>Bv C)<|C9 C C C h3 (λ_ U=>BF C F4)<|C9 C C C h3 (λ_ U=>Ai C UR (Q.keep U (.head _)) C)<|C9 C C C h3 (λ_ U=>D2 (c:=c1) C C JQ oM (by rw[Int.toNat_natCast];exact hc1))<|C9 C C C h3 (λ_ U=>fA C C) ?_;refine A0 C (λ_ U=>ON C h3 C)<|El<|Dw<|sP 73 C (λh4=>?_) (λh4=>?_);refine AT [.sq _] 6 [] (Ar _) (λ_=>A4 C (Ax N5 C C) (FZ _ b src j q (.slice ta toks.length tc) D c1 hc1 oM hq) ?_);rintro _ w8 ⟨rfl,hb4,hE7⟩;replace J:=J.exb hE7 oM;replace h:=BX.exb h hE7 (λe=>by have:=F _ e;omega);replace K:=hE7.ext K hb0;have sz5:=hE7.size;have hp2:=Pk.adv (c:=c1) hq;refine AL [.bk _] 2 [] (Ar _) (λ_=>HF (src.length-(j+1)) (AF SW.e0 0 (pB b)) (by have:=Cj hc1;omega) lE ⟨j+1,adv c1 q,C,C,C,oM,by have:=Cj hc1;omega,hp2,hm.trans (Y4 hc1 h4),hb4,J,h,K⟩);exact AT [.sq _] 3 [] (Ar _) (λ_=>OJ<|K5 [.bk _,.bk _] 2 [] (Ar _) (λ_=>G6 (DL C)<|⟨[],j,q,ta,tc,by rw[Qf Z h1 h2,hm,Qq (.inr ⟨c1,hc1,h4⟩)],C,by rw[List.append_nil];exact D,by rw[List.append_nil];exact h,F,K,hij,hjl,hq⟩));refine C8 C C C h3<|C8 C C C h3<|C8 C C C h3<|C8 C C C h3<|C8 C C C h3<|C8 C C C h3<|C8 C C C h3<|C8 C C C h3<|C8 C C C h3<|C8 C C C h3 ?_;exact A0 C (λ_ U=>N3 C h3 C)<|El<|K5 [.sq _,.sq _] 4 [] (Ar _) (λ_=>OJ<|K5 [.bk _,.bk _] 2 [] (Ar _) (λ_=>G6 (DL C)<|⟨[],j,q,ta,tc,by rw[Qf Z h1 h2,hm,Qq (.inl (by have:=dF h3;omega))],C,by rw[List.append_nil];exact D,by rw[List.append_nil];exact h,F,K,hij,hjl,hq⟩));refine AT [.bk _] 8 [] (Ar _) (λ_=>sP 76 C (λh5=>?_) (λh5=>?_));refine Gh C C ?_;have hr4:=hb2;refine Em mixed (A5 w5 [b1]) (rd [0,1,2,3,5,6] (.br 4 (.br 7 (.br 8 (.rd 9 (.rd 10 (.br 11 .fin .fin))) .fin) .fin) (.br 7 (.br 4 (.br 8 (.rd 9 (.rd 10 (.br 11 .fin .fin))) .fin) .fin) .fin))) kR kR kR λw9 hE8 hz4=>?_;have d:A5 w5 [b1] w9:=A5.cons hr4 hE8 (A5.nil _ _);refine⟨d,?_⟩;replace h:=h.ext hE8;replace hb2:=hb2.ext hE8;replace hb3:=hb3.ext hE8;replace K:=K.trans hE8;refine Av C C (λ_ U=>Az C)<|Av C C (λ_ U=>Az C)<|Av C C (λ_ U=>Bv C)<|Av C C (λ_ U=>BF C Cm)<|Av C C (λ_ U=>Di C Jl (hr4.keep U (.head _)) C)<|Av C C (λ_ U=>DC C Ui D7 C)<|An C ?_ ?_;refine Ab C (Ai C Du hb3 C)<|Ae (Ao d<|An C ?_ Af);refine Ch C C Hj D7 C C C C C λb2 w10 hb5 hE9 hs2 hz5=>?_;replace h:=h.ext hE9;replace hb2:=hb2.ext hE9;replace hb3:=hb3.ext hE9;replace K:=K.trans hE9;replace d:=d.ext hE9;refine Ae (Ao d<|An C ?_ Af);refine Bb C Jg C C C C h hb5 C C oM oM λY tc2 w11 Q G=>?_
 have L:∀x,rb Y=some x→w0.heap.size≤x∧x≠b:=BU G F oM;replace hb3:=hb3.grow G (λe=>by have:=F _ e.symm;have:=O _ e.symm;omega);replace K:=K.grow G (λx hx=>(F x hx).1);replace d:=d.grow G (by simp only[List.mem_cons,List.not_mem_nil,or_false];intro c Z e;have:=F _ e.symm;have:=O _ e.symm;omega);have sz6:=G.size;refine Ae (Ao d<|Av C C (λ_ U=>Bv C)<|Av C C (λ_ U=>BF C Cm)<|An C ?_ Af);refine A1 C C C Du C hb3 C C λw12 hb6 hC2=>?_;replace Q:=BX.chg Q hC2 (λe=>by have:=L _ e;omega);replace K:=K.chg hC2 oM;replace d:=d.chg hC2 nM;have sz7:=hC2.size;exact Ae (Ao d<|By<|DO<|G6 (DL C)<|⟨[⟨0,p.1,p.2,0,[]⟩],i+1,adv c p,Y,tc2,Tx Z h1 h2 h5,C,by rw[List.length_append];exact hb6,by rw[List.length_append,BA];exact Q,L,K,oM,by first|omega|(have:=Cj Z;omega),hp1⟩);refine An C ?_ ?_;refine Ch C C Hj D7 C C C C C λb3 w13 hb7 hE10 hs3 hz6=>?_;replace h:=h.ext hE10;replace hb2:=hb2.ext hE10;replace hb3:=hb3.ext hE10;replace K:=K.trans hE10;replace d:=d.ext hE10;refine Ae (Ao d<|An C ?_ Af);refine Ab C (Ai C Du hb3 C)<|Ae (Ao d<|An C ?_ Af);refine Bb C Jg C C C C h hb7 C C oM oM λY tc2 w14 Q G=>?_;have L:∀x,rb Y=some x→w0.heap.size≤x∧x≠b:=BU G F oM;replace hb3:=hb3.grow G (λe=>by have:=F _ e.symm;have:=O _ e.symm;omega);replace K:=K.grow G (λx hx=>(F x hx).1);replace d:=d.grow G (by simp only[List.mem_cons,List.not_mem_nil,or_false];intro c Z e;have:=F _ e.symm;have:=O _ e.symm;omega);have sz8:=G.size;refine Ae (Ao d<|Av C C (λ_ U=>Bv C)<|Av C C (λ_ U=>BF C Cm)<|An C ?_ Af);refine A1 C C C Du C hb3 C C λw15 hb8 hC3=>?_;replace Q:=BX.chg Q hC3 (λe=>by have:=L _ e;omega);replace K:=K.chg hC3 oM;replace d:=d.chg hC3 nM;have sz9:=hC3.size;exact Ae (Ao d<|By<|DO<|G6 (DL C)<|⟨[⟨0,p.1,p.2,0,[]⟩],i+1,adv c p,Y,tc2,Tx Z h1 h2 h5,C,by rw[List.length_append];exact hb8,by rw[List.length_append,BA];exact Q,L,K,oM,by first|omega|(have:=Cj Z;omega),hp1⟩);exact Af;refine AT [.bk _] 8 [] (Ar _) (λ_=>sP 90 C (λh6=>?_) (λh6=>?_));refine Gh C C ?_;have hr5:=hb2;refine Em mixed (A5 w5 [b1]) (rd [0,1,2,3,5,6] (.br 4 (.br 7 (.br 8 (.rd 9 (.rd 10 (.br 11 .fin .fin))) .fin) .fin) (.br 7 (.br 4 (.br 8 (.rd 9 (.rd 10 (.br 11 .fin .fin))) .fin) .fin) .fin))) kR kR kR λw16 hE11 hz7=>?_;have d:A5 w5 [b1] w16:=A5.cons hr5 hE11 (A5.nil _ _);refine⟨d,?_⟩;replace h:=h.ext hE11;replace hb2:=hb2.ext hE11;replace hb3:=hb3.ext hE11;replace K:=K.trans hE11;refine Av C C (λ_ U=>Az C)<|Av C C (λ_ U=>Az C)<|Av C C (λ_ U=>Bv C)<|Av C C (λ_ U=>BF C Cm)<|Av C C (λ_ U=>Di C Jl (hr5.keep U (.head _)) C)<|Av C C (λ_ U=>DC C Ui D7 C)<|An C ?_ ?_;refine Ab C (Ai C Du hb3 C)<|Ae (Ao d<|An C ?_ Af)
 refine Ch C C Hj D7 C C C C C λb4 w17 hb9 hE12 hs4 hz8=>?_;replace h:=h.ext hE12;replace hb2:=hb2.ext hE12;replace hb3:=hb3.ext hE12;replace K:=K.trans hE12;replace d:=d.ext hE12;refine Ae (Ao d<|An C ?_ Af);refine Bb C Jg C C C C h hb9 C C oM oM λY tc2 w18 Q G=>?_;have L:∀x,rb Y=some x→w0.heap.size≤x∧x≠b:=BU G F oM;replace hb3:=hb3.grow G (λe=>by have:=F _ e.symm;have:=O _ e.symm;omega);replace K:=K.grow G (λx hx=>(F x hx).1);replace d:=d.grow G (by simp only[List.mem_cons,List.not_mem_nil,or_false];intro c Z e;have:=F _ e.symm;have:=O _ e.symm;omega);have sz10:=G.size;refine Ae (Ao d<|Av C C (λ_ U=>Bv C)<|Av C C (λ_ U=>BF C Cm)<|An C ?_ Af);refine A1 C C C Du C hb3 C C λw19 hb10 hC4=>?_;replace Q:=BX.chg Q hC4 (λe=>by have:=L _ e;omega);replace K:=K.chg hC4 oM;replace d:=d.chg hC4 nM;have sz11:=hC4.size;exact Ae (Ao d<|By<|DO<|G6 (DL C)<|⟨[⟨1,p.1,p.2,0,[]⟩],i+1,adv c p,Y,tc2,TN Z h1 h2 h5 h6,C,by rw[List.length_append];exact hb10,by rw[List.length_append,BA];exact Q,L,K,oM,by first|omega|(have:=Cj Z;omega),hp1⟩);refine An C ?_ ?_;refine Ch C C Hj D7 C C C C C λb5 w20 hb11 hE13 hs5 hz9=>?_;replace h:=h.ext hE13;replace hb2:=hb2.ext hE13;replace hb3:=hb3.ext hE13;replace K:=K.trans hE13;replace d:=d.ext hE13;refine Ae (Ao d<|An C ?_ Af);refine Ab C (Ai C Du hb3 C)<|Ae (Ao d<|An C ?_ Af);refine Bb C Jg C C C C h hb11 C C oM oM λY tc2 w21 Q G=>?_;have L:∀x,rb Y=some x→w0.heap.size≤x∧x≠b:=BU G F oM;replace hb3:=hb3.grow G (λe=>by have:=F _ e.symm;have:=O _ e.symm;omega);replace K:=K.grow G (λx hx=>(F x hx).1);replace d:=d.grow G (by simp only[List.mem_cons,List.not_mem_nil,or_false];intro c Z e;have:=F _ e.symm;have:=O _ e.symm;omega);have sz12:=G.size;refine Ae (Ao d<|Av C C (λ_ U=>Bv C)<|Av C C (λ_ U=>BF C Cm)<|An C ?_ Af);refine A1 C C C Du C hb3 C C λw22 hb12 hC5=>?_;replace Q:=BX.chg Q hC5 (λe=>by have:=L _ e;omega);replace K:=K.chg hC5 oM;replace d:=d.chg hC5 nM;have sz13:=hC5.size;exact Ae (Ao d<|By<|DO<|G6 (DL C)<|⟨[⟨1,p.1,p.2,0,[]⟩],i+1,adv c p,Y,tc2,TN Z h1 h2 h5 h6,C,by rw[List.length_append];exact hb12,by rw[List.length_append,BA];exact Q,L,K,oM,by first|omega|(have:=Cj Z;omega),hp1⟩);exact Af;refine AT [.bk _] 8 [] (Ar _) (λ_=>sP 104 C (λh7=>?_) (λh7=>?_));refine Gh C C ?_;have hr6:=hb2;refine Em mixed (A5 w5 [b1]) (rd [0,1,2,3,5,6] (.br 4 (.br 7 (.br 8 (.br 9 (.rd 10 (.rd 11 (.br 12 .fin .fin))) .fin) .fin) .fin) (.br 7 (.br 4 (.br 8 (.br 9 (.rd 10 (.rd 11 (.br 12 .fin .fin))) .fin) .fin) (.br 8 (.br 4 (.br 9 (.rd 10 (.rd 11 (.br 12 .fin .fin))) .fin) .fin) .fin)) .fin))) kR kR kR λw23 hE14 hz10=>?_;have d:A5 w5 [b1] w23:=A5.cons hr6 hE14 (A5.nil _ _)
 refine⟨d,?_⟩;replace h:=h.ext hE14;replace hb2:=hb2.ext hE14;replace hb3:=hb3.ext hE14;replace K:=K.trans hE14;refine Av C C (λ_ U=>Az C)<|Av C C (λ_ U=>Az C)<|Av C C (λ_ U=>Bv C)<|Av C C (λ_ U=>BF C Cm)<|Av C C (λ_ U=>Az C)<|Av C C (λ_ U=>Di C Jl (hr6.keep U (.head _)) C)<|An C ?_ ?_;refine Ab C (Ai C Du hb3 C)<|Ae (Ao d<|An C ?_ Af);refine Cg C (Ax pQ C C) (So _ b src (i+1) (adv c p) (.slice ta toks.length tc) hb3 p (by have:=Cj Z;omega) oM hp1) ?_ (λcc wp hc1=>aI C (let ⟨e,he,hcc,hE⟩:=hc1;⟨e,by rw[Iv Z h1 h2 h5 h6 h7,he],hcc,hE.ext K hb0⟩));rintro _ w24 ⟨tx,i1,p1,hstr,rfl,hb13,hE15,hi1,hi2,hp1⟩;replace h:=BX.exb h hE15 (λe=>by have:=F _ e;omega);replace hb2:=hb2.exb hE15 oM;replace K:=hE15.ext K hb0;have sz14:=hE15.size;replace d:=d.exb hE15 nM;refine Ae (Ao d<|An C ?_ Af);refine Ch C C Hj D7 C C C C C λb6 w25 hb14 hE16 hs6 hz11=>?_;replace h:=h.ext hE16;replace hb2:=hb2.ext hE16;replace hb13:=hb13.ext hE16;replace K:=K.trans hE16;replace d:=d.ext hE16;refine Ae (Ao d<|An C ?_ Af);refine Bb C Jg C C C C h hb14 C C oM oM λY tc2 w26 Q G=>?_;have L:∀x,rb Y=some x→w0.heap.size≤x∧x≠b:=BU G F oM;replace hb13:=hb13.grow G (λe=>by have:=F _ e.symm;have:=O _ e.symm;omega);replace K:=K.grow G (λx hx=>(F x hx).1);replace d:=d.grow G (by simp only[List.mem_cons,List.not_mem_nil,or_false];intro c Z e;have:=F _ e.symm;have:=O _ e.symm;omega);have sz15:=G.size;refine Ae (Ao d<|Av C C (λ_ U=>Bv C)<|Av C C (λ_ U=>BF C Cm)<|An C ?_ Af);refine A1 C C C Du C hb13 C C λw27 hb15 hC6=>?_;replace Q:=BX.chg Q hC6 (λe=>by have:=L _ e;omega);replace K:=K.chg hC6 oM;replace d:=d.chg hC6 nM;have sz16:=hC6.size;exact Ae (Ao d<|By<|DO<|G6 (DL C)<|⟨[⟨4,p.1,p.2,0,tx⟩],i1,p1,Y,tc2,by rw[Iv Z h1 h2 h5 h6 h7,hstr],C,by rw[List.length_append];exact hb15,by rw[List.length_append,BA];exact Q,L,K,oM,by first|omega|(have:=Cj Z;omega),hp1⟩);refine An C ?_ ?_;refine Cg C (Ax pQ C C) (So _ b src (i+1) (adv c p) (.slice ta toks.length tc) hb3 p (by have:=Cj Z;omega) oM hp1) ?_ (λcc wp hc1=>aI C (let ⟨e,he,hcc,hE⟩:=hc1;⟨e,by rw[Iv Z h1 h2 h5 h6 h7,he],hcc,hE.ext K hb0⟩));rintro _ w28 ⟨tx,i1,p1,hstr,rfl,hb16,hE17,hi1,hi2,hp1⟩;replace h:=BX.exb h hE17 (λe=>by have:=F _ e;omega);replace hb2:=hb2.exb hE17 oM;replace K:=hE17.ext K hb0;have sz17:=hE17.size;replace d:=d.exb hE17 nM;refine Ae (Ao d<|An C ?_ ?_);refine Ab C (Ai C Du hb16 C)<|Ae (Ao d<|An C ?_ Af);refine Ch C C Hj D7 C C C C C λb7 w29 hb17 hE18 hs7 hz12=>?_;replace h:=h.ext hE18;replace hb2:=hb2.ext hE18;replace hb16:=hb16.ext hE18;replace K:=K.trans hE18;replace d:=d.ext hE18;refine Ae (Ao d<|An C ?_ Af)
 refine Bb C Jg C C C C h hb17 C C oM oM λY tc2 w30 Q G=>?_;have L:∀x,rb Y=some x→w0.heap.size≤x∧x≠b:=BU G F oM;replace hb16:=hb16.grow G (λe=>by have:=F _ e.symm;have:=O _ e.symm;omega);replace K:=K.grow G (λx hx=>(F x hx).1);replace d:=d.grow G (by simp only[List.mem_cons,List.not_mem_nil,or_false];intro c Z e;have:=F _ e.symm;have:=O _ e.symm;omega);have sz18:=G.size;refine Ae (Ao d<|Av C C (λ_ U=>Bv C)<|Av C C (λ_ U=>BF C Cm)<|An C ?_ Af);refine A1 C C C Du C hb16 C C λw31 hb18 hC7=>?_;replace Q:=BX.chg Q hC7 (λe=>by have:=L _ e;omega);replace K:=K.chg hC7 oM;replace d:=d.chg hC7 nM;have sz19:=hC7.size;exact Ae (Ao d<|By<|DO<|G6 (DL C)<|⟨[⟨4,p.1,p.2,0,tx⟩],i1,p1,Y,tc2,by rw[Iv Z h1 h2 h5 h6 h7,hstr],C,by rw[List.length_append];exact hb18,by rw[List.length_append,BA];exact Q,L,K,oM,by first|omega|(have:=Cj Z;omega),hp1⟩);refine An C ?_ ?_;refine Ch C C Hj D7 C C C C C λb8 w32 hb19 hE19 hs8 hz13=>?_;replace h:=h.ext hE19;replace hb2:=hb2.ext hE19;replace hb16:=hb16.ext hE19;replace K:=K.trans hE19;replace d:=d.ext hE19;refine Ae (Ao d<|An C ?_ Af);refine Ab C (Ai C Du hb16 C)<|Ae (Ao d<|An C ?_ Af);refine Bb C Jg C C C C h hb19 C C oM oM λY tc2 w33 Q G=>?_;have L:∀x,rb Y=some x→w0.heap.size≤x∧x≠b:=BU G F oM;replace hb16:=hb16.grow G (λe=>by have:=F _ e.symm;have:=O _ e.symm;omega);replace K:=K.grow G (λx hx=>(F x hx).1);replace d:=d.grow G (by simp only[List.mem_cons,List.not_mem_nil,or_false];intro c Z e;have:=F _ e.symm;have:=O _ e.symm;omega);have sz20:=G.size;refine Ae (Ao d<|Av C C (λ_ U=>Bv C)<|Av C C (λ_ U=>BF C Cm)<|An C ?_ Af);refine A1 C C C Du C hb16 C C λw34 hb20 hC8=>?_;replace Q:=BX.chg Q hC8 (λe=>by have:=L _ e;omega);replace K:=K.chg hC8 oM;replace d:=d.chg hC8 nM;have sz21:=hC8.size;exact Ae (Ao d<|By<|DO<|G6 (DL C)<|⟨[⟨4,p.1,p.2,0,tx⟩],i1,p1,Y,tc2,by rw[Iv Z h1 h2 h5 h6 h7,hstr],C,by rw[List.length_append];exact hb20,by rw[List.length_append,BA];exact Q,L,K,oM,by first|omega|(have:=Cj Z;omega),hp1⟩);exact Af;exact Af;refine Ki C C<|RV (E3 0 (pB b) 2 (pB b1) 3 (iV (i:Int))) (λw'=>∃(j:Nat)(q:Ps),i<j∧j≤src.length∧Pk j q∧CW (adv c p) (src.drop (i+1))=(EY src (i+1) j,src.drop j,q)∧AM w' b [S src,iV ((j:Nat):Int),iV q.1,iV q.2,(.slice ta toks.length tc)] 106∧AM w' b1 [iV p.1,iV p.2] 27 ∧ BX w' 108 5 ta tc toks.length (Fw toks)∧AU w0 w') ?_ ?_;refine Eg ?_
 refine DU (λk σ ds w'=>∃(j:Nat)(q:Ps),k=src.length-j∧ds=[]∧σ=(E3 0 (pB b) 2 (pB b1) 3 (iV (i:Int)))∧i<j∧j≤src.length∧Pk j q∧CW (adv c p) (src.drop (i+1))=(EY src (i+1) j++(CW q (src.drop j)).1,(CW q (src.drop j)).2)∧AM w' b [S src,iV ((j:Nat):Int),iV q.1,iV q.2,(.slice ta toks.length tc)] 106∧AM w' b1 [iV p.1,iV p.2] 27 ∧ BX w' 108 5 ta tc toks.length (Fw toks)∧AU w0 w') (src.length-(i+1)) (E3 0 (pB b) 2 (pB b1) 3 (iV (i:Int))) lE ⟨i+1,adv c p,C,C,C,oM,by have:=Cj Z;omega,hp1,by rw[V4];rfl,hb3,hb2,h,K⟩ ?_;rintro _ _ _ wl ⟨j,q,rfl,rfl,rfl,hij,hjl,hq,hm,D,J,h,K⟩;have szl:=K.size;have lt2:=J.lt;have lts:=D.lt;refine AT [] 2 [] (Ar _) (λ_=>?_);have hr7:=D;have hr8:=J;refine DX mixed (A5 wl [b,b1]) [(true,0),(false,1),(true,2),(true,3),(true,4),(true,5),(true,6),(true,7),(true,8),(true,9),(true,10),(true,11),(false,12),(true,13),(true,14)] kR kR C C λw35 hE20 hz14=>?_;have d:A5 wl [b,b1] w35:=A5.cons hr7 hE20 (A5.cons hr8 hE20 (A5.nil _ _));refine⟨d,?_⟩;replace D:=D.ext hE20;replace J:=J.ext hE20;replace h:=h.ext hE20;replace K:=K.trans hE20;refine A0 C (λ_ U=>Az C)<|EK<|A4 C (Ax Tm C C) (Iz _ b src j q (.slice ta toks.length tc) D) ?_;rintro _ w36 ⟨rfl,hE21⟩;replace D:=D.ext hE21;replace J:=J.ext hE21;replace h:=h.ext hE21;replace K:=K.trans hE21;replace d:=d.ext hE21;have sz22:=hE21.size;refine Ae (Hn d<|A0 C (λ_ U=>Az C)<|PV 17 C (λh8=>?_) (λh8=>?_));have hjlt:j<src.length:=by have:=dT h8;omega
 obtain⟨c1,hc1⟩:=K2 hjlt;refine C9 C C C h8 (λ_ U=>Az C)<|C9 C C C h8 (λ_ U=>Bv C)<|C9 C C C h8 (λ_ U=>BF C HK)<|C9 C C C h8 (λ_ U=>Ai C ZB (hr7.keep U (.head _)) C)<|C9 C C C h8 (λ_ U=>Az C)<|C9 C C C h8 (λ_ U=>Bv C)<|C9 C C C h8 (λ_ U=>BF C F4)<|C9 C C C h8 (λ_ U=>Ai C UR (hr7.keep U (.head _)) C)<|C9 C C C h8 (λ_ U=>D2 (c:=c1) C C JQ oM (by rw[Int.toNat_natCast];exact hc1))<|EK ?_;refine B7 C C h8<|A4 C (Ax Xu C C) (Fp _ Jz _) ?_;rintro _ w37 ⟨rfl,hE22⟩;replace D:=D.ext hE22;replace J:=J.ext hE22;replace h:=h.ext hE22;replace K:=K.trans hE22;replace d:=d.ext hE22;have sz23:=hE22.size;refine Ae (Hn d<|C9 C C C h8 (λ_ U=>VG C C)<|A0 C (λ_ U=>ON C h8 C)<|El<|Dw<|sP 29 C (λh9=>?_) (λh9=>?_));refine AT [.sq _] 6 [] (Ar _) (λ_=>A4 C (Ax N5 C C) (FZ _ b src j q (.slice ta toks.length tc) D c1 hc1 oM hq) ?_);rintro _ w38 ⟨rfl,hb21,hE23⟩;replace J:=J.exb hE23 oM;replace h:=BX.exb h hE23 (λe=>by have:=F _ e;omega);replace K:=hE23.ext K hb0;have sz24:=hE23.size;have hp3:=Pk.adv (c:=c1) hq;refine AL [.bk _] 2 [] (Ar _) (λ_=>HF (src.length-(j+1)) (E3 0 (pB b) 2 (pB b1) 3 (iV (i:Int))) (by have:=Cj hc1;omega) lE ⟨j+1,adv c1 q,C,C,C,oM,by have:=Cj hc1;omega,hp3,by rw[hm,V5 hc1 h9,VH (by omega) hc1,List.append_assoc];rfl,hb21,J,h,K⟩);exact AT [.sq _] 3 [] (Ar _) (λ_=>OJ<|Qs<|Q1 lE ⟨j,q,hij,hjl,hq,by rw[hm,Pc (p:=q) (src:=src) (j:=j) (.inr ⟨c1,hc1,h9⟩),List.append_nil],D,J,h,K⟩);refine C8 C C C h8<|C8 C C C h8<|C8 C C C h8<|C8 C C C h8<|C8 C C C h8<|C8 C C C h8<|C8 C C C h8<|C8 C C C h8<|C8 C C C h8<|EK ?_;exact mL C C C h8<|Ae (Hn d<|C8 C C C h8<|A0 C (λ_ U=>N3 C h8 C)<|El<|K5 [.sq _,.sq _] 4 [] (Ar _) (λ_=>OJ<|Qs<|Q1 lE ⟨j,q,hij,hjl,hq,by rw[hm,Pc (p:=q) (src:=src) (j:=j) (.inl (by have:=dF h8;omega)),List.append_nil],D,J,h,K⟩));rintro wl ⟨j,q,hij,hjl,hq,hm,D,J,h,K⟩;have szl:=K.size;have lt2:=J.lt;have lts:=D.lt;have hr9:=J
 refine Em mixed (A5 wl [b1]) (rd [0,1,2,3,5,6,7,9,10,11,12,15] (.br 4 (.br 8 (.br 13 (.rd 14 (.br 16 (.br 17 (.br 18 (.rd 19 (.rd 20 (.br 21 .fin .fin))) .fin) .fin) .fin)) .fin) (.br 13 (.br 8 (.rd 14 (.br 16 (.br 17 (.br 18 (.rd 19 (.rd 20 (.br 21 .fin .fin))) .fin) .fin) .fin)) .fin) .fin)) (.br 8 (.br 4 (.br 13 (.rd 14 (.br 16 (.br 17 (.br 18 (.rd 19 (.rd 20 (.br 21 .fin .fin))) .fin) .fin) .fin)) .fin) (.br 13 (.rd 14 (.br 4 (.br 16 (.br 17 (.br 18 (.rd 19 (.rd 20 (.br 21 .fin .fin))) .fin) .fin) .fin) (.br 16 (.br 4 (.br 17 (.br 18 (.rd 19 (.rd 20 (.br 21 .fin .fin))) .fin) .fin) (.br 17 (.br 4 (.br 18 (.rd 19 (.rd 20 (.br 21 .fin .fin))) .fin) .fin) .fin)) .fin))) .fin)) (.br 13 (.br 4 (.br 8 (.rd 14 (.br 16 (.br 17 (.br 18 (.rd 19 (.rd 20 (.br 21 .fin .fin))) .fin) .fin) .fin)) .fin) (.br 8 (.rd 14 (.br 4 (.br 16 (.br 17 (.br 18 (.rd 19 (.rd 20 (.br 21 .fin .fin))) .fin) .fin) .fin) (.br 16 (.br 4 (.br 17 (.br 18 (.rd 19 (.rd 20 (.br 21 .fin .fin))) .fin) .fin) (.br 17 (.br 4 (.br 18 (.rd 19 (.rd 20 (.br 21 .fin .fin))) .fin) .fin) .fin)) .fin))) .fin)) .fin)))) kR kR kR λw39 hE24 hz15=>?_;have d:A5 wl [b1] w39:=A5.cons hr9 hE24 (A5.nil _ _);refine⟨d,?_⟩;replace D:=D.ext hE24;replace J:=J.ext hE24;replace h:=h.ext hE24;replace K:=K.trans hE24;refine Av C C (λ_ U=>Az C)<|Av C C (λ_ U=>Az C)<|Av C C (λ_ U=>Bv C)<|Av C C (λ_ U=>BF C Cm)<|Av C C (λ_ U=>Az C)<|Av C C (λ_ U=>Bv C)<|Av C C (λ_ U=>BF C HK)<|Av C C (λ_ U=>Az C)<|Av C C (λ_ U=>Az C)<|Av C C (λ_ U=>Bv C) ?_;refine Av C C (λ_ U=>BF C F4)<|Av C C (λ_ U=>Di C Jl (hr9.keep U (.head _)) C)<|An C ?_ ?_;refine Ab C (Ai C Du D C)<|Ae (Ao d<|An C ?_ ?_);refine Ab C (Ai C ZB D C)<|Ae (Ao d<|An C ?_ Af);refine Ab C (Ai C UR D C)<|Ae (Ao d<|Av C C (λ_ U=>M0 C C C JQ ⟨oM,oM,oM⟩)<|An C ?_ Af);refine Cg C (Ax MQ C C) (Fb hPF _ (hG.ext K) (EY src i j) (by have:=Ff src i j;omega) (by rw[AS hij Z];simp) p) ?_ (λcc wp hc1=>aI C (let ⟨he,hcc,hE⟩:=hc1;⟨p,by rw[BH Z h1 h2 h5 h6 h7,hm];simp only[];rw[← AS hij Z,he],hcc,K.trans hE⟩));rintro _ w40 ⟨wk,wn,wt,hw,rfl,hE25⟩;replace D:=D.ext hE25;replace J:=J.ext hE25;replace h:=h.ext hE25;replace K:=K.trans hE25;replace d:=d.ext hE25;have sz25:=hE25.size;have hst2:CH (src.length+1) p (src.drop i)=.ok ([⟨wk,p.1,p.2,wn,wt⟩],src.drop j,q):=by rw[BH Z h1 h2 h5 h6 h7,hm];simp only[];rw[← AS hij Z,hw]
 refine Ae (Ao d<|An C ?_ Af);refine Ch C C Hj D7 C C C C C λb9 w41 hb22 hE26 hs9 hz16=>?_;replace D:=D.ext hE26;replace J:=J.ext hE26;replace h:=h.ext hE26;replace K:=K.trans hE26;replace d:=d.ext hE26;refine Ae (Ao d<|An C ?_ Af);refine Bb C Jg C C C C h hb22 C C oM oM λY tc2 w42 Q G=>?_;have L:∀x,rb Y=some x→w0.heap.size≤x∧x≠b:=BU G F oM;replace D:=D.grow G (λe=>by have:=F _ e.symm;have:=O _ e.symm;omega);replace J:=J.grow G (λe=>by have:=F _ e.symm;have:=O _ e.symm;omega);replace K:=K.grow G (λx hx=>(F x hx).1);replace d:=d.grow G (by simp only[List.mem_cons,List.not_mem_nil,or_false];intro c Z e;have:=F _ e.symm;have:=O _ e.symm;omega);have sz26:=G.size;refine Ae (Ao d<|Av C C (λ_ U=>Bv C)<|Av C C (λ_ U=>BF C Cm)<|An C ?_ Af);refine A1 C C C Du C D C C λw43 hb23 hC9=>?_;replace J:=J.chg hC9 oM;replace Q:=BX.chg Q hC9 (λe=>by have:=L _ e;omega);replace K:=K.chg hC9 oM;replace d:=d.chg hC9 nM;have sz27:=hC9.size;exact Ae (Ao d<|By<|DO<|G6 (DL C)<|⟨[⟨wk,p.1,p.2,wn,wt⟩],j,q,Y,tc2,hst2,C,by rw[List.length_append];exact hb23,by rw[List.length_append,BA];exact Q,L,K,oM,by first|omega|(have:=Cj Z;omega),hq⟩);refine An C ?_ ?_;refine Ab C (Ai C UR D C)<|Ae (Ao d<|An C ?_ Af);refine Ab C (Ai C ZB D C)<|Ae (Ao d<|Av C C (λ_ U=>M0 C C C JQ ⟨oM,oM,oM⟩)<|An C ?_ Af);refine Cg C (Ax MQ C C) (Fb hPF _ (hG.ext K) (EY src i j) (by have:=Ff src i j;omega) (by rw[AS hij Z];simp) p) ?_ (λcc wp hc1=>aI C (let ⟨he,hcc,hE⟩:=hc1;⟨p,by rw[BH Z h1 h2 h5 h6 h7,hm];simp only[];rw[← AS hij Z,he],hcc,K.trans hE⟩));rintro _ w44 ⟨wk,wn,wt,hw,rfl,hE27⟩;replace D:=D.ext hE27;replace J:=J.ext hE27;replace h:=h.ext hE27;replace K:=K.trans hE27;replace d:=d.ext hE27;have sz28:=hE27.size;have hst2:CH (src.length+1) p (src.drop i)=.ok ([⟨wk,p.1,p.2,wn,wt⟩],src.drop j,q):=by rw[BH Z h1 h2 h5 h6 h7,hm];simp only[];rw[← AS hij Z,hw]
 refine Ae (Ao d<|An C ?_ Af);refine Ch C C Hj D7 C C C C C λb10 w45 hb24 hE28 hs10 hz17=>?_;replace D:=D.ext hE28;replace J:=J.ext hE28;replace h:=h.ext hE28;replace K:=K.trans hE28;replace d:=d.ext hE28;refine Ae (Ao d<|An C ?_ Af);refine Bb C Jg C C C C h hb24 C C oM oM λY tc2 w46 Q G=>?_;have L:∀x,rb Y=some x→w0.heap.size≤x∧x≠b:=BU G F oM;replace D:=D.grow G (λe=>by have:=F _ e.symm;have:=O _ e.symm;omega);replace J:=J.grow G (λe=>by have:=F _ e.symm;have:=O _ e.symm;omega);replace K:=K.grow G (λx hx=>(F x hx).1);replace d:=d.grow G (by simp only[List.mem_cons,List.not_mem_nil,or_false];intro c Z e;have:=F _ e.symm;have:=O _ e.symm;omega);have sz29:=G.size;refine Ae (Ao d<|Av C C (λ_ U=>Bv C)<|Av C C (λ_ U=>BF C Cm)<|An C ?_ Af);refine A1 C C C Du C D C C λw47 hb25 hC10=>?_;replace J:=J.chg hC10 oM;replace Q:=BX.chg Q hC10 (λe=>by have:=L _ e;omega);replace K:=K.chg hC10 oM;replace d:=d.chg hC10 nM;have sz30:=hC10.size;exact Ae (Ao d<|By<|DO<|G6 (DL C)<|⟨[⟨wk,p.1,p.2,wn,wt⟩],j,q,Y,tc2,hst2,C,by rw[List.length_append];exact hb25,by rw[List.length_append,BA];exact Q,L,K,oM,by first|omega|(have:=Cj Z;omega),hq⟩);exact Af;refine An C ?_ ?_;refine Ab C (Ai C ZB D C)<|Ae (Ao d<|An C ?_ ?_);refine Ab C (Ai C Du D C)<|Ae (Ao d<|An C ?_ Af);refine Ab C (Ai C UR D C)<|Ae (Ao d<|Av C C (λ_ U=>M0 C C C JQ ⟨oM,oM,oM⟩)<|An C ?_ Af);refine Cg C (Ax MQ C C) (Fb hPF _ (hG.ext K) (EY src i j) (by have:=Ff src i j;omega) (by rw[AS hij Z];simp) p) ?_ (λcc wp hc1=>aI C (let ⟨he,hcc,hE⟩:=hc1;⟨p,by rw[BH Z h1 h2 h5 h6 h7,hm];simp only[];rw[← AS hij Z,he],hcc,K.trans hE⟩));rintro _ w48 ⟨wk,wn,wt,hw,rfl,hE29⟩;replace D:=D.ext hE29;replace J:=J.ext hE29;replace h:=h.ext hE29;replace K:=K.trans hE29;replace d:=d.ext hE29;have sz31:=hE29.size;have hst2:CH (src.length+1) p (src.drop i)=.ok ([⟨wk,p.1,p.2,wn,wt⟩],src.drop j,q):=by rw[BH Z h1 h2 h5 h6 h7,hm];simp only[];rw[← AS hij Z,hw]
 refine Ae (Ao d<|An C ?_ Af);refine Ch C C Hj D7 C C C C C λb11 w49 hb26 hE30 hs11 hz18=>?_;replace D:=D.ext hE30;replace J:=J.ext hE30;replace h:=h.ext hE30;replace K:=K.trans hE30;replace d:=d.ext hE30;refine Ae (Ao d<|An C ?_ Af);refine Bb C Jg C C C C h hb26 C C oM oM λY tc2 w50 Q G=>?_;have L:∀x,rb Y=some x→w0.heap.size≤x∧x≠b:=BU G F oM;replace D:=D.grow G (λe=>by have:=F _ e.symm;have:=O _ e.symm;omega);replace J:=J.grow G (λe=>by have:=F _ e.symm;have:=O _ e.symm;omega);replace K:=K.grow G (λx hx=>(F x hx).1);replace d:=d.grow G (by simp only[List.mem_cons,List.not_mem_nil,or_false];intro c Z e;have:=F _ e.symm;have:=O _ e.symm;omega);have sz32:=G.size;refine Ae (Ao d<|Av C C (λ_ U=>Bv C)<|Av C C (λ_ U=>BF C Cm)<|An C ?_ Af);refine A1 C C C Du C D C C λw51 hb27 hC11=>?_;replace J:=J.chg hC11 oM;replace Q:=BX.chg Q hC11 (λe=>by have:=L _ e;omega);replace K:=K.chg hC11 oM;replace d:=d.chg hC11 nM;have sz33:=hC11.size;exact Ae (Ao d<|By<|DO<|G6 (DL C)<|⟨[⟨wk,p.1,p.2,wn,wt⟩],j,q,Y,tc2,hst2,C,by rw[List.length_append];exact hb27,by rw[List.length_append,BA];exact Q,L,K,oM,by first|omega|(have:=Cj Z;omega),hq⟩);refine An C ?_ ?_;refine Ab C (Ai C UR D C)<|Ae (Ao d<|Av C C (λ_ U=>M0 C C C JQ ⟨oM,oM,oM⟩)<|An C ?_ ?_);refine Ab C (Ai C Du D C)<|Ae (Ao d<|An C ?_ Af);refine Cg C (Ax MQ C C) (Fb hPF _ (hG.ext K) (EY src i j) (by have:=Ff src i j;omega) (by rw[AS hij Z];simp) p) ?_ (λcc wp hc1=>aI C (let ⟨he,hcc,hE⟩:=hc1;⟨p,by rw[BH Z h1 h2 h5 h6 h7,hm];simp only[];rw[← AS hij Z,he],hcc,K.trans hE⟩));rintro _ w52 ⟨wk,wn,wt,hw,rfl,hE31⟩;replace D:=D.ext hE31;replace J:=J.ext hE31;replace h:=h.ext hE31;replace K:=K.trans hE31;replace d:=d.ext hE31;have sz34:=hE31.size;have hst2:CH (src.length+1) p (src.drop i)=.ok ([⟨wk,p.1,p.2,wn,wt⟩],src.drop j,q):=by rw[BH Z h1 h2 h5 h6 h7,hm];simp only[];rw[← AS hij Z,hw]
 refine Ae (Ao d<|An C ?_ Af);refine Ch C C Hj D7 C C C C C λb12 w53 hb28 hE32 hs12 hz19=>?_;replace D:=D.ext hE32;replace J:=J.ext hE32;replace h:=h.ext hE32;replace K:=K.trans hE32;replace d:=d.ext hE32;refine Ae (Ao d<|An C ?_ Af);refine Bb C Jg C C C C h hb28 C C oM oM λY tc2 w54 Q G=>?_;have L:∀x,rb Y=some x→w0.heap.size≤x∧x≠b:=BU G F oM;replace D:=D.grow G (λe=>by have:=F _ e.symm;have:=O _ e.symm;omega);replace J:=J.grow G (λe=>by have:=F _ e.symm;have:=O _ e.symm;omega);replace K:=K.grow G (λx hx=>(F x hx).1);replace d:=d.grow G (by simp only[List.mem_cons,List.not_mem_nil,or_false];intro c Z e;have:=F _ e.symm;have:=O _ e.symm;omega);have sz35:=G.size;refine Ae (Ao d<|Av C C (λ_ U=>Bv C)<|Av C C (λ_ U=>BF C Cm)<|An C ?_ Af);refine A1 C C C Du C D C C λw55 hb29 hC12=>?_;replace J:=J.chg hC12 oM;replace Q:=BX.chg Q hC12 (λe=>by have:=L _ e;omega);replace K:=K.chg hC12 oM;replace d:=d.chg hC12 nM;have sz36:=hC12.size;exact Ae (Ao d<|By<|DO<|G6 (DL C)<|⟨[⟨wk,p.1,p.2,wn,wt⟩],j,q,Y,tc2,hst2,C,by rw[List.length_append];exact hb29,by rw[List.length_append,BA];exact Q,L,K,oM,by first|omega|(have:=Cj Z;omega),hq⟩);refine An C ?_ ?_;refine Cg C (Ax MQ C C) (Fb hPF _ (hG.ext K) (EY src i j) (by have:=Ff src i j;omega) (by rw[AS hij Z];simp) p) ?_ (λcc wp hc1=>aI C (let ⟨he,hcc,hE⟩:=hc1;⟨p,by rw[BH Z h1 h2 h5 h6 h7,hm];simp only[];rw[← AS hij Z,he],hcc,K.trans hE⟩));rintro _ w56 ⟨wk,wn,wt,hw,rfl,hE33⟩;replace D:=D.ext hE33;replace J:=J.ext hE33;replace h:=h.ext hE33;replace K:=K.trans hE33;replace d:=d.ext hE33;have sz37:=hE33.size;have hst2:CH (src.length+1) p (src.drop i)=.ok ([⟨wk,p.1,p.2,wn,wt⟩],src.drop j,q):=by rw[BH Z h1 h2 h5 h6 h7,hm];simp only[];rw[← AS hij Z,hw]
 refine Ae (Ao d<|An C ?_ ?_);refine Ab C (Ai C Du D C)<|Ae (Ao d<|An C ?_ Af);refine Ch C C Hj D7 C C C C C λb13 w57 hb30 hE34 hs13 hz20=>?_;replace D:=D.ext hE34;replace J:=J.ext hE34;replace h:=h.ext hE34;replace K:=K.trans hE34;replace d:=d.ext hE34;refine Ae (Ao d<|An C ?_ Af);refine Bb C Jg C C C C h hb30 C C oM oM λY tc2 w58 Q G=>?_;have L:∀x,rb Y=some x→w0.heap.size≤x∧x≠b:=BU G F oM;replace D:=D.grow G (λe=>by have:=F _ e.symm;have:=O _ e.symm;omega);replace J:=J.grow G (λe=>by have:=F _ e.symm;have:=O _ e.symm;omega);replace K:=K.grow G (λx hx=>(F x hx).1);replace d:=d.grow G (by simp only[List.mem_cons,List.not_mem_nil,or_false];intro c Z e;have:=F _ e.symm;have:=O _ e.symm;omega);have sz38:=G.size;refine Ae (Ao d<|Av C C (λ_ U=>Bv C)<|Av C C (λ_ U=>BF C Cm)<|An C ?_ Af);refine A1 C C C Du C D C C λw59 hb31 hC13=>?_;replace J:=J.chg hC13 oM;replace Q:=BX.chg Q hC13 (λe=>by have:=L _ e;omega);replace K:=K.chg hC13 oM;replace d:=d.chg hC13 nM;have sz39:=hC13.size;exact Ae (Ao d<|By<|DO<|G6 (DL C)<|⟨[⟨wk,p.1,p.2,wn,wt⟩],j,q,Y,tc2,hst2,C,by rw[List.length_append];exact hb31,by rw[List.length_append,BA];exact Q,L,K,oM,by first|omega|(have:=Cj Z;omega),hq⟩);refine An C ?_ ?_;refine Ch C C Hj D7 C C C C C λb14 w60 hb32 hE35 hs14 hz21=>?_;replace D:=D.ext hE35;replace J:=J.ext hE35;replace h:=h.ext hE35;replace K:=K.trans hE35;replace d:=d.ext hE35;refine Ae (Ao d<|An C ?_ Af);refine Ab C (Ai C Du D C)<|Ae (Ao d<|An C ?_ Af);refine Bb C Jg C C C C h hb32 C C oM oM λY tc2 w61 Q G=>?_;have L:∀x,rb Y=some x→w0.heap.size≤x∧x≠b:=BU G F oM;replace D:=D.grow G (λe=>by have:=F _ e.symm;have:=O _ e.symm;omega);replace J:=J.grow G (λe=>by have:=F _ e.symm;have:=O _ e.symm;omega);replace K:=K.grow G (λx hx=>(F x hx).1);replace d:=d.grow G (by simp only[List.mem_cons,List.not_mem_nil,or_false];intro c Z e;have:=F _ e.symm;have:=O _ e.symm;omega);have sz40:=G.size;refine Ae (Ao d<|Av C C (λ_ U=>Bv C)<|Av C C (λ_ U=>BF C Cm)<|An C ?_ Af);refine A1 C C C Du C D C C λw62 hb33 hC14=>?_;replace J:=J.chg hC14 oM;replace Q:=BX.chg Q hC14 (λe=>by have:=L _ e;omega);replace K:=K.chg hC14 oM;replace d:=d.chg hC14 nM;have sz41:=hC14.size;exact Ae (Ao d<|By<|DO<|G6 (DL C)<|⟨[⟨wk,p.1,p.2,wn,wt⟩],j,q,Y,tc2,hst2,C,by rw[List.length_append];exact hb33,by rw[List.length_append,BA];exact Q,L,K,oM,by first|omega|(have:=Cj Z;omega),hq⟩);exact Af;exact Af;exact Af;refine An C ?_ ?_;refine Ab C (Ai C UR D C)<|Ae (Ao d<|An C ?_ ?_);refine Ab C (Ai C Du D C)<|Ae (Ao d<|An C ?_ Af)
 refine Ab C (Ai C ZB D C)<|Ae (Ao d<|Av C C (λ_ U=>M0 C C C JQ ⟨oM,oM,oM⟩)<|An C ?_ Af);refine Cg C (Ax MQ C C) (Fb hPF _ (hG.ext K) (EY src i j) (by have:=Ff src i j;omega) (by rw[AS hij Z];simp) p) ?_ (λcc wp hc1=>aI C (let ⟨he,hcc,hE⟩:=hc1;⟨p,by rw[BH Z h1 h2 h5 h6 h7,hm];simp only[];rw[← AS hij Z,he],hcc,K.trans hE⟩));rintro _ w63 ⟨wk,wn,wt,hw,rfl,hE36⟩;replace D:=D.ext hE36;replace J:=J.ext hE36;replace h:=h.ext hE36;replace K:=K.trans hE36;replace d:=d.ext hE36;have sz42:=hE36.size;have hst2:CH (src.length+1) p (src.drop i)=.ok ([⟨wk,p.1,p.2,wn,wt⟩],src.drop j,q):=by rw[BH Z h1 h2 h5 h6 h7,hm];simp only[];rw[← AS hij Z,hw]
 refine Ae (Ao d<|An C ?_ Af);refine Ch C C Hj D7 C C C C C λb15 w64 hb34 hE37 hs15 hz22=>?_;replace D:=D.ext hE37;replace J:=J.ext hE37;replace h:=h.ext hE37;replace K:=K.trans hE37;replace d:=d.ext hE37;refine Ae (Ao d<|An C ?_ Af);refine Bb C Jg C C C C h hb34 C C oM oM λY tc2 w65 Q G=>?_;have L:∀x,rb Y=some x→w0.heap.size≤x∧x≠b:=BU G F oM;replace D:=D.grow G (λe=>by have:=F _ e.symm;have:=O _ e.symm;omega);replace J:=J.grow G (λe=>by have:=F _ e.symm;have:=O _ e.symm;omega);replace K:=K.grow G (λx hx=>(F x hx).1);replace d:=d.grow G (by simp only[List.mem_cons,List.not_mem_nil,or_false];intro c Z e;have:=F _ e.symm;have:=O _ e.symm;omega);have sz43:=G.size;refine Ae (Ao d<|Av C C (λ_ U=>Bv C)<|Av C C (λ_ U=>BF C Cm)<|An C ?_ Af);refine A1 C C C Du C D C C λw66 hb35 hC15=>?_;replace J:=J.chg hC15 oM;replace Q:=BX.chg Q hC15 (λe=>by have:=L _ e;omega);replace K:=K.chg hC15 oM;replace d:=d.chg hC15 nM;have sz44:=hC15.size;exact Ae (Ao d<|By<|DO<|G6 (DL C)<|⟨[⟨wk,p.1,p.2,wn,wt⟩],j,q,Y,tc2,hst2,C,by rw[List.length_append];exact hb35,by rw[List.length_append,BA];exact Q,L,K,oM,by first|omega|(have:=Cj Z;omega),hq⟩);refine An C ?_ ?_;refine Ab C (Ai C ZB D C)<|Ae (Ao d<|Av C C (λ_ U=>M0 C C C JQ ⟨oM,oM,oM⟩)<|An C ?_ ?_);refine Ab C (Ai C Du D C)<|Ae (Ao d<|An C ?_ Af);refine Cg C (Ax MQ C C) (Fb hPF _ (hG.ext K) (EY src i j) (by have:=Ff src i j;omega) (by rw[AS hij Z];simp) p) ?_ (λcc wp hc1=>aI C (let ⟨he,hcc,hE⟩:=hc1;⟨p,by rw[BH Z h1 h2 h5 h6 h7,hm];simp only[];rw[← AS hij Z,he],hcc,K.trans hE⟩));rintro _ w67 ⟨wk,wn,wt,hw,rfl,hE38⟩;replace D:=D.ext hE38;replace J:=J.ext hE38;replace h:=h.ext hE38;replace K:=K.trans hE38;replace d:=d.ext hE38;have sz45:=hE38.size;have hst2:CH (src.length+1) p (src.drop i)=.ok ([⟨wk,p.1,p.2,wn,wt⟩],src.drop j,q):=by rw[BH Z h1 h2 h5 h6 h7,hm];simp only[];rw[← AS hij Z,hw]
 refine Ae (Ao d<|An C ?_ Af);refine Ch C C Hj D7 C C C C C λb16 w68 hb36 hE39 hs16 hz23=>?_;replace D:=D.ext hE39;replace J:=J.ext hE39;replace h:=h.ext hE39;replace K:=K.trans hE39;replace d:=d.ext hE39;refine Ae (Ao d<|An C ?_ Af);refine Bb C Jg C C C C h hb36 C C oM oM λY tc2 w69 Q G=>?_;have L:∀x,rb Y=some x→w0.heap.size≤x∧x≠b:=BU G F oM;replace D:=D.grow G (λe=>by have:=F _ e.symm;have:=O _ e.symm;omega);replace J:=J.grow G (λe=>by have:=F _ e.symm;have:=O _ e.symm;omega);replace K:=K.grow G (λx hx=>(F x hx).1);replace d:=d.grow G (by simp only[List.mem_cons,List.not_mem_nil,or_false];intro c Z e;have:=F _ e.symm;have:=O _ e.symm;omega);have sz46:=G.size;refine Ae (Ao d<|Av C C (λ_ U=>Bv C)<|Av C C (λ_ U=>BF C Cm)<|An C ?_ Af);refine A1 C C C Du C D C C λw70 hb37 hC16=>?_;replace J:=J.chg hC16 oM;replace Q:=BX.chg Q hC16 (λe=>by have:=L _ e;omega);replace K:=K.chg hC16 oM;replace d:=d.chg hC16 nM;have sz47:=hC16.size;exact Ae (Ao d<|By<|DO<|G6 (DL C)<|⟨[⟨wk,p.1,p.2,wn,wt⟩],j,q,Y,tc2,hst2,C,by rw[List.length_append];exact hb37,by rw[List.length_append,BA];exact Q,L,K,oM,by first|omega|(have:=Cj Z;omega),hq⟩);refine An C ?_ ?_;refine Cg C (Ax MQ C C) (Fb hPF _ (hG.ext K) (EY src i j) (by have:=Ff src i j;omega) (by rw[AS hij Z];simp) p) ?_ (λcc wp hc1=>aI C (let ⟨he,hcc,hE⟩:=hc1;⟨p,by rw[BH Z h1 h2 h5 h6 h7,hm];simp only[];rw[← AS hij Z,he],hcc,K.trans hE⟩));rintro _ w71 ⟨wk,wn,wt,hw,rfl,hE40⟩;replace D:=D.ext hE40;replace J:=J.ext hE40;replace h:=h.ext hE40;replace K:=K.trans hE40;replace d:=d.ext hE40;have sz48:=hE40.size;have hst2:CH (src.length+1) p (src.drop i)=.ok ([⟨wk,p.1,p.2,wn,wt⟩],src.drop j,q):=by rw[BH Z h1 h2 h5 h6 h7,hm];simp only[];rw[← AS hij Z,hw]
 refine Ae (Ao d<|An C ?_ ?_);refine Ab C (Ai C Du D C)<|Ae (Ao d<|An C ?_ Af);refine Ch C C Hj D7 C C C C C λb17 w72 hb38 hE41 hs17 hz24=>?_;replace D:=D.ext hE41;replace J:=J.ext hE41;replace h:=h.ext hE41;replace K:=K.trans hE41;replace d:=d.ext hE41;refine Ae (Ao d<|An C ?_ Af);refine Bb C Jg C C C C h hb38 C C oM oM λY tc2 w73 Q G=>?_;have L:∀x,rb Y=some x→w0.heap.size≤x∧x≠b:=BU G F oM;replace D:=D.grow G (λe=>by have:=F _ e.symm;have:=O _ e.symm;omega);replace J:=J.grow G (λe=>by have:=F _ e.symm;have:=O _ e.symm;omega);replace K:=K.grow G (λx hx=>(F x hx).1);replace d:=d.grow G (by simp only[List.mem_cons,List.not_mem_nil,or_false];intro c Z e;have:=F _ e.symm;have:=O _ e.symm;omega);have sz49:=G.size;refine Ae (Ao d<|Av C C (λ_ U=>Bv C)<|Av C C (λ_ U=>BF C Cm)<|An C ?_ Af);refine A1 C C C Du C D C C λw74 hb39 hC17=>?_;replace J:=J.chg hC17 oM;replace Q:=BX.chg Q hC17 (λe=>by have:=L _ e;omega);replace K:=K.chg hC17 oM;replace d:=d.chg hC17 nM;have sz50:=hC17.size;exact Ae (Ao d<|By<|DO<|G6 (DL C)<|⟨[⟨wk,p.1,p.2,wn,wt⟩],j,q,Y,tc2,hst2,C,by rw[List.length_append];exact hb39,by rw[List.length_append,BA];exact Q,L,K,oM,by first|omega|(have:=Cj Z;omega),hq⟩);refine An C ?_ ?_;refine Ch C C Hj D7 C C C C C λb18 w75 hb40 hE42 hs18 hz25=>?_;replace D:=D.ext hE42;replace J:=J.ext hE42;replace h:=h.ext hE42;replace K:=K.trans hE42;replace d:=d.ext hE42;refine Ae (Ao d<|An C ?_ Af);refine Ab C (Ai C Du D C)<|Ae (Ao d<|An C ?_ Af);refine Bb C Jg C C C C h hb40 C C oM oM λY tc2 w76 Q G=>?_;have L:∀x,rb Y=some x→w0.heap.size≤x∧x≠b:=BU G F oM;replace D:=D.grow G (λe=>by have:=F _ e.symm;have:=O _ e.symm;omega);replace J:=J.grow G (λe=>by have:=F _ e.symm;have:=O _ e.symm;omega);replace K:=K.grow G (λx hx=>(F x hx).1);replace d:=d.grow G (by simp only[List.mem_cons,List.not_mem_nil,or_false];intro c Z e;have:=F _ e.symm;have:=O _ e.symm;omega);have sz51:=G.size;refine Ae (Ao d<|Av C C (λ_ U=>Bv C)<|Av C C (λ_ U=>BF C Cm)<|An C ?_ Af);refine A1 C C C Du C D C C λw77 hb41 hC18=>?_;replace J:=J.chg hC18 oM;replace Q:=BX.chg Q hC18 (λe=>by have:=L _ e;omega);replace K:=K.chg hC18 oM;replace d:=d.chg hC18 nM;have sz52:=hC18.size;exact Ae (Ao d<|By<|DO<|G6 (DL C)<|⟨[⟨wk,p.1,p.2,wn,wt⟩],j,q,Y,tc2,hst2,C,by rw[List.length_append];exact hb41,by rw[List.length_append,BA];exact Q,L,K,oM,by first|omega|(have:=Cj Z;omega),hq⟩);exact Af;exact Af;exact Af;exact Af
theorem Uo(w:wO)(c2 c3 c4:Nat) :
  CallsD prog 37 [pB c2,pB c3,pB c4].toArray .returning w λr m w'=>∃x,r=.returned x∧m=.returning∧(AU w w'):=by
 have d:=AU.refl w;refine D0 (R:=λw'=>AU w w') func37 C C C C NU<|Eg<|BW<|CD<|Ab C (RO qE C)<|Ae<|Dw<|Gh C C<|CD<|Ab C (De C) ?_;exact Ae<|DO<|G6 (DL C)<|d
theorem VD(w0 w:wO)(hX0:AU w0 w)(c2 c3 c4:Nat)(v2 x3 y3 v4:Value)(G:AM w c2 [v2] 57)(h:AM w c3 [x3,y3] 27)(d:AM w c4 [v4] 28)(g2:w0.heap.size≤c2)(g3:w0.heap.size≤c3)(g4:w0.heap.size≤c4)(n23:c2≠c3)(n24:c2≠c4)(n34:c3≠c4)(e:Int×Int) :
  CallsD prog 37 [pB c2,pB c3,pB c4].toArray (.panicking (Sn 103 e)) w λr m w'=>∃x,r=.returned x∧m=.panicking [{v:=.iface 103 (.agg #[iV e.1,iV e.2]),recovered:=true}]∧(AU w0 w'∧AM w' c2 [.slice none 0 0] 57∧AM w' c3 [iV e.1,iV e.2] 27∧AM w' c4 [iV 10] 28):=by
 have l2:=G.lt;have l3:=h.lt;have l4:=d.lt;have J:=hX0;have szx:=J.size;refine D0 (R:=λw'=>AU w0 w'∧AM w' c2 [.slice none 0 0] 57∧AM w' c3 [iV e.1,iV e.2] 27∧AM w' c4 [iV 10] 28) func37 C C C C Sj<|Eg<|BW<|CD<|Ab C (Ri qE C)<|Ae<|Dw<|Ki C C<|BW<|CD ?_;refine Ab C (V3 C rG)<|Ab C (Vd C C)<|Ab C (Vd C C)<|Ae<|Dw<|Gh C C<|BW<|CD<|CI C oU λb1 w1 hb1 Z hs1 hz1=>?_;replace G:=G.ext Z;replace h:=h.ext Z;replace d:=d.ext Z;replace J:=J.trans Z;refine A1 C C C zG C hb1 C C λw2 F U=>?_;replace G:=G.chg U oM;replace h:=h.chg U oM;replace d:=d.chg U oM;replace J:=J.chg U oM;have sz1:=U.size;refine Ae<|Dw ?_;have hr1:=F;refine DX mixed (A5 w2 [b1]) [(true,0),(true,1),(false,2),(false,3),(false,4)] kR kR C C λw3 K hz2=>?_;have D:A5 w2 [b1] w3:=A5.cons hr1 K (A5.nil _ _);refine⟨D,?_⟩;replace G:=G.ext K;replace h:=h.ext K;replace d:=d.ext K;replace F:=F.ext K;replace J:=J.trans K;refine A0 C (λ_ hS=>BF C oK)<|A0 C (λ_ hS=>Di C Jl (hr1.keep hS (.head _)) C)<|EK<|A1 C C C Du C G C C λw4 Y L=>?_;replace h:=h.chg L oM;replace d:=d.chg L oM;replace F:=F.chg L oM;replace J:=J.chg L oM;replace D:=D.chg L nM;have sz2:=L.size;refine Ae (Hn D<|EK<|A1 C C C Jl C h C C λw5 hb4 O=>?_);replace Y:=Y.chg O oM;replace d:=d.chg O oM;replace F:=F.chg O oM;replace J:=J.chg O oM;replace D:=D.chg O nM;have sz3:=O.size;refine Ae (Hn D<|EK<|A1 C C C YB C d C C λw6 hb5 Q=>?_);replace Y:=Y.chg Q oM;replace hb4:=hb4.chg Q oM;replace F:=F.chg Q oM;replace J:=J.chg Q oM;replace D:=D.chg Q nM;have sz4:=Q.size;exact Ae (Hn D<|El<|DO<|G6 (DL C)<|⟨J,Y,hb4,hb5⟩)
def ScanR(w w':wO)(v:Value):Except (Int×Int×Int) (List AB)→Prop
 |.error e=>v=.tuple #[.slice none 0 0,.agg #[iV e.1,iV e.2.1],iV e.2.2]∧AU w w'
 |.ok d=>∃h D,v=.tuple #[.slice h d.length D,.agg #[iV 0,iV 0],iV 0]∧(BX w' 108 5 h D d.length (Fw d)∧∀b,rb h=some b→w.heap.size≤b)∧AU w w'
theorem Qw(hPF:PFS)(w:wO)(hG:Gl w)(src:lU) :
  Bq prog 16 #[S src] w λv w'=>ScanR w w' v (Jj src):=by
 have G:=AU.refl w;refine xV (l:=[S src]) func16 C C C<|BW<|CD<|CI C zr57 λb1 w1 L hE1 hs1 hz1=>?_;replace G:=G.trans hE1;refine CI C U4 λb2 w2 O hE2 hs2 hz2=>?_;replace L:=L.ext hE2;replace G:=G.trans hE2;refine CI C zr28 λb3 w3 Q hE3 hs3 hz3=>?_;replace L:=L.ext hE3;replace O:=O.ext hE3;replace G:=G.trans hE3;refine Ae<|Dw<|BW<|BW<|CD<|Ab C (Az C)<|Ab C (Ni C JQ)<|Ab C (aG C C)<|Ae<|Dw ?_;refine N2 C (λh1=>?_) (λh1=>?_);refine BW<|CD<|Ab C (DC C sN U4 C)<|A1 C C C Du C L C C λw4 hb4 hC1=>?_;replace O:=O.chg hC1 oM;replace Q:=Q.chg hC1 oM;replace G:=G.chg hC1 oM;have sz1:=hC1.size;refine A1 C C C Jl C O C C λw5 hb5 hC2=>?_;replace hb4:=hb4.chg hC2 oM;replace Q:=Q.chg hC2 oM;replace G:=G.chg hC2 oM;have sz2:=hC2.size;refine A1 C C C YB C Q C C λw6 hb6 hC3=>?_;replace hb4:=hb4.chg hC3 oM;replace hb5:=hb5.chg hC3 oM;replace G:=G.chg hC3 oM;have sz3:=hC3.size;exact Ae<|Dw<|Kk<|WH<|λtmps hσ=>BT hσ (DP C (Br C Du hb4 C) (Ac C Jl hb5 C) (Br C YB hb6 C)) ⟨_,C,by rw[Jj,if_pos h1];exact⟨C,G⟩⟩;refine I9<|Dw<|BW<|CD<|Ab C (VP C)<|QD C ?_;have hlen:src.length≤65536:=by have:=dF h1;omega
 refine Ae<|Dw<|BW ?_;have hb1B:=L;have hb2B:=O;have hb3B:=Q;have hX0:=G;refine CD<|Ab C (Az C)<|Ab C (DC C sN U4 C)<|Ab C (DC C zA zr106 C)<|Ei C C C λb4 w7 hb7 hE4 hs4 hz4=>?_;replace L:=L.ext hE4;replace O:=O.ext hE4;replace Q:=Q.ext hE4;replace G:=G.trans hE4;refine Ab C (De C)<|Ae<|Dw<|BW<|Eg ?_;refine DU (λk σ ds w'=>∃(j n:Nat)(q:Ps)(h:List AB)(ta:oA)(tc:Nat),k=src.length-j∧ds=[{target:=.fn (.func 37) ([pB b1,pB b2,pB b3]:lV).toArray,args:=#[]}]∧σ=(E4 2 (pB b1) 3 (pB b2) 4 (pB b3) 5 (pB b4))∧j≤src.length∧src.length≤j+n∧Pk j q∧h.length≤j∧DZ (src.length+1) src.length (1,1) src=Wn h (DZ (src.length+1) n q (src.drop j))∧AM w' b4 [S src,iV ((j:Nat):Int),iV q.1,iV q.2,(.slice ta h.length tc)] 106∧BX w' 108 5 ta tc h.length (Fw h)∧(∀x,rb ta=some x→w3.heap.size≤x∧x≠b4)∧AU w3 w') src.length (E4 2 (pB b1) 3 (pB b2) 4 (pB b3) 5 (pB b4)) lE ⟨0,src.length,(1,1),[],none,0,C,C,C,oM,oM,⟨dC,dC,dC,dC⟩,by simp,(ZY _).symm,hb7,Gf _ _ _,(λx hx=>by cases hx),hE4⟩ ?_;rintro _ _ _ wl ⟨j,n,q,h,ta,tc,rfl,rfl,rfl,hjl,hn,hq,htl,hm,d,D,U,K⟩;have szl:=K.size;have lts:=d.lt;replace G:=hX0.trans K;have Z:=hb1B.ext K;have J:=hb2B.ext K;have F:=hb3B.ext K;refine BW<|BW<|CD<|Ab C (Az C)<|A4 C (Ax Tm C C) (Iz _ b4 src j q (.slice ta h.length tc) d) ?_;rintro _ w8 ⟨rfl,Y⟩;replace Z:=Z.ext Y;replace J:=J.ext Y;replace F:=F.ext Y;replace d:=d.ext Y;replace D:=D.ext Y;replace G:=G.trans Y;replace K:=K.trans Y;have sz4:=Y.size;refine Ae<|Dw<|N2 C (λh2=>?_) (λh2=>?_);refine I9<|Dw<|Eg<|CD<|Ab C (Az C) ?_;obtain⟨c,hc⟩:=K2 (show j<src.length by have:=dT h2;omega);obtain⟨n,rfl⟩:∃n1,n=n1+1:=⟨n-1,by have:=Cj hc;omega⟩;refine Cg C (Ax AaA C C) (Yb hPF w3 _ (hG.ext hX0) K b4 oM src j q h ta tc d D U c hc hq hlen htl) ?_ (λcc wp hcc tmps hσ=>by obtain⟨e,he,rfl,hE⟩:=hcc;have sz:=hE.size;exact FP (by simp) qG (VD w wp (hX0.trans hE) b1 b2 b3 _ _ _ _ (hb1B.ext hE) (hb2B.ext hE) (hb3B.ext hE) oM oM oM oM oM oM e) (λwz hz=>by rw[KK];obtain⟨h1,h2,h3,h4⟩:=hz;exact BT hσ (DP C (Br C Du h2 C) (Ac C Jl h3 C) (Br C YB h4 C)) ⟨_,C,by rw[Jj,if_neg (by rw[decide_eq_true_eq];omega),hm,Yr hc he,Wn];exact⟨C,h1⟩⟩));rintro _ w9 ⟨ot,i1,p1,ta1,tc1,hst,rfl,hsc2,hrow2,hlow2,hX2,hi1,hi2,hp1⟩;have hot:(h++ot).length≤i1:=by have:=Qz hst;rw[List.length_append];omega
 have hm2:=Vh hc hst hm;refine Ae<|DO<|HF (src.length-i1) (E4 2 (pB b1) 3 (pB b2) 4 (pB b3) 5 (pB b4)) oM lE ⟨i1,n,p1,h++ot,ta1,tc1,C,C,C,hi2,oM,hp1,hot,hm2,hsc2,hrow2,hlow2,hX2⟩;refine Lp<|Xv<|OJ<|Qs<|Dw<|BW<|CD<|Ab C (Az C)<|Ab C (Bv C)<|Ab C (BF C Cm) ?_;refine Ab C (Ai C Du d C)<|Ab C (DC C sN U4 C)<|A1 C C C Du C Z C C λw10 hb8 hC4=>?_;replace J:=J.chg hC4 oM;replace F:=F.chg hC4 oM;replace d:=d.chg hC4 oM;replace D:=BX.chg D hC4 (λe=>by have:=U _ e;omega);replace G:=G.chg hC4 oM;clear K;have sz5:=hC4.size;refine A1 C C C Jl C J C C λw11 hb9 hC5=>?_;replace hb8:=hb8.chg hC5 oM;replace F:=F.chg hC5 oM;replace d:=d.chg hC5 oM;replace D:=BX.chg D hC5 (λe=>by have:=U _ e;omega);replace G:=G.chg hC5 oM;have sz6:=hC5.size;refine A1 C C C YB C F C C λw12 hb10 hC6=>?_;replace hb8:=hb8.chg hC6 oM;replace hb9:=hb9.chg hC6 oM;replace d:=d.chg hC6 oM;replace D:=BX.chg D hC6 (λe=>by have:=U _ e;omega);replace G:=G.chg hC6 oM;have sz7:=hC6.size;refine Ae<|Dw<|Kk ?_;intro tmps hσ;refine FP (by simp) qG (Uo _ b1 b2 b3) λwz hz=>?_;have hlx:Jj src=.ok h:=by rw[Jj,if_neg (by rw[decide_eq_true_eq];omega),hm,J6 (by have:=dF h2;omega),Iu];simp[Wn]
 refine BT hσ (DP C (Br C Du (hb8.ext hz) C) (Ac C Jl (hb9.ext hz) C) (Br C YB (hb10.ext hz) C)) ⟨_,C,?_⟩;rw[hlx];exact⟨ta,tc,C,⟨D.ext hz,λx hx=>by have:=U x hx;omega⟩,G.trans hz⟩
end Go.Proofs.YtelmolopaolbcaaGreatDoor
namespace Go.SP
open Go.SW Go.RowKit
def Hr(l:lU):Prop:=∀c∈l,48≤c.toNat∧c.toNat≤57
def FV(b:lU):Bool→lU→Prop
 |false,rest=>∃a2,rest=a2++46::b∧Hr a2
 |true,rest=>Hr rest∧rest.length≤b.length
variable {dot:Bool}
theorem FV.cons{b r:lU}{c:UInt8}(h:FV b dot (c::r)):(c=46∧dot=false∧r=b)∨((48≤c.toNat∧c.toNat≤57)∧FV b dot r):=by
 cases dot with
 |false =>
   obtain⟨a2,D,G⟩:=h
   cases a2 with
   |nil=>left;simp at D;exact⟨D.1,C,D.2⟩
   |cons d a3 =>
     right
     simp at D;exact⟨D.1▸G d (.head _),a3,D.2,λx F=>G x (.tail _ F)⟩
 |true=>exact .inr ⟨h.1 c (.head _),λx F=>h.1 x (.tail _ F),by have:=h.2;simp only[List.length_cons] at this;omega⟩
theorem FV.nil{b:lU}(h:FV b dot []):dot=true:=by
 cases dot with
 |false=>obtain⟨a2,d,_⟩:=h;cases a2 <;> cases d
 |true=>rfl
def JE(l:lU):lU:=l.filter (λc=>c != 46)
theorem Vn{l:lU}(h:Hr l):JE l=l:=by
 unfold JE;rw[List.filter_eq_self];intro c d;have:=h c d;have D:c≠46:=λe=>by subst e;revert this;decide
 simpa using D
theorem II{c:UInt8}{l:lU}(h:48≤c.toNat∧c.toNat≤57):JE (c::l)=c::JE l:=by
 unfold JE;rw[List.filter_cons_of_pos];have d:c≠46:=λe=>by subst e;revert h;decide
 simpa using d
theorem PC(l:lU):JE (46::l)=JE l:=by
 unfold JE;rw[List.filter_cons_of_neg];simp
theorem YV{a b:lU}(d:Hr a)(h:Hr b):JE (a++46::b)=a++b:=by
 induction a with
 |nil=>rw[List.nil_append,PC,Vn h,List.nil_append]
 |cons c a D=>rw[List.cons_append,II (d c (.head _)),D λx F=>d x (.tail _ F)];rfl
theorem OX(n:Nat)(c:UInt8)(l:lU):CQ n (c::l)=CQ (n*10+(c.toNat-48)) l:=by conv=>lhs;unfold CQ
theorem iC(n:Nat):CQ n []=n:=by conv=>lhs;unfold CQ
theorem Q7:∀(l:lU)(n:Nat),n≤CQ n l
 | [],n=>Nat.le_refl _
 |c::l,n=>by
   have:=Q7 l (n*10+(c.toNat-48));rw[OX];omega
theorem XA:∀(l:lU)(n:Nat),Hr l→CQ n l<(n+1)*10 ^ l.length
 | [],n,_=>by
   rw[iC,List.length_nil,Nat.pow_zero];omega
 |c::l,n,h=>by
   have F:=h c (.head _);have:=XA l (n*10+(c.toNat-48)) λx d=>h x (.tail _ d);rw[OX,List.length_cons,Nat.pow_succ];refine Nat.lt_of_lt_of_le this ?_;have D:n*10+(c.toNat-48)+1≤(n+1)*10:=oM
   calc (n*10+(c.toNat-48)+1)*10 ^ l.length≤(n+1)*10*10 ^ l.length:=Nat.mul_le_mul_right _ D
     _=(n+1)*(10 ^ l.length*10):=by rw[Nat.mul_assoc,Nat.mul_comm 10]
theorem Py{l:lU}(h:Hr l)(d:l.length≤15):CQ 0 l<1000000000000000:=by
 have D:=XA l 0 h;have F:10 ^ l.length≤10 ^ 15:=Nat.pow_le_pow_right dC d;have G:(10:Nat) ^ 15=1000000000000000:=dC;omega
theorem Aa2:∀n:Fin 58,46≤n.val→IntKind.u8.wrap (BitVec.ofInt 8 (n.val:Int) ||| BitVec.ofInt 8 32).toNat=(n.val:Int):=dC
theorem nR{z:lU}(h:(Lib.cut z [46]).2.2=true):z=(Lib.cut z [46]).1++46::(Lib.cut z [46]).2.1:=by
 unfold Lib.cut at h ⊢
 split at h
 · rename_i F
   rw[if_pos F];rcases Lib.index_spec z [46] with ⟨D,_⟩|⟨i,D,L,d,_⟩
   · omega
   · simp only[D,Int.toNat_natCast,List.length_cons,List.length_nil]
     unfold Lib.occAt at d
     cases hd:z.drop i with
     |nil=>rw[hd] at d;cases d
     |cons c t =>
       rw[hd] at d
       have G:c=46:=by
         have J:(46:UInt8)=c:=by simpa[List.isPrefixOf] using d
         exact J.symm
       have K:z.drop (i+(0+1))=t:=by
         rw[← List.drop_drop,hd];rfl
       rw[K,← G,← hd,List.take_append_drop]
 · cases h
theorem R2{s a b:lU}(h:Ie s=some (a,b)):Hr a∧Hr b∧a≠[]∧b≠[]∧a.length+b.length≤15∧Bg s=a++46::b:=by
 unfold Ie at h;simp only at h
 split at h
 · rename_i d
   simp only[Bool.and_eq_true,decide_eq_true_eq] at d;obtain⟨D,F,G,J⟩:=d;simp only[Option.some.injEq,Prod.mk.injEq] at h;obtain⟨rfl,rfl⟩:=h;have d1:=GQ F;have d2:=GQ G;exact⟨d1.2,d2.2,by simpa using d1.1,by simpa using d2.1,oM,nR D⟩
 · cases h
end Go.SP
namespace Go.SP
variable {j:Nat}
theorem Kl{s r:lU}{c:UInt8}(h:s.drop j=c::r):s.drop (j+1)=r:=by
 rw[← List.drop_drop,h];rfl
theorem Rs{s r:lU}{c:UInt8}(h:s.drop j=c::r):s[j]?=some c:=by
 have:(s.drop j)[0]?=some c:=by rw[h];rfl
 simpa using this
theorem XT(o:Nat){s a b:lU}(D:Hr a)(d:a≠[])(h:s.drop o=a++46::b):∃c,s[((o:Int)+1).toNat]?=some c∧46≤c.toNat∧c.toNat≤57:=by
 have e:((o:Int)+1).toNat=o+1:=oM;rw[e];rcases a with _|⟨x,_|⟨y,a⟩⟩
 · exact absurd C d
 · exact⟨46,Rs (r:=b) (Kl (c:=x) (by simpa using h)),dC,dC⟩
 · have:=D y (.tail _ (.head _))
   exact⟨y,Rs (r:=a++46::b) (Kl (c:=x) (by simpa using h)),oM,oM⟩
end Go.SP
namespace Go.SP
open Ieee
theorem Yx{k:Nat}{d e:Datum}(G:d.isNaN=false)(h:e.isNaN=false∧e.isInfinity=false∧e.isZero=false):∃r,d.quotient k e=some r:=by
 obtain⟨h,D,J⟩:=h
 cases d with
 |nan s t=>cases G
 |infinity s=>cases e with
   |nan s t=>cases h
   |infinity s=>cases D
   |number s m p=>exact⟨_,C⟩
 |number s m p=>cases e with
   |nan s t=>cases h
   |infinity s=>cases D
   |number s' F K =>
     cases F with
     |zero=>cases J
     |succ F=>exact⟨_,C⟩
theorem Zr{x:Nat}(h:x % 9223372036854775808≤9218868437227405312):(double.read x).isNaN=false:=by
 unfold Format.read;simp only[show double.signWeight=9223372036854775808 from by decide,show double.infRung=9218868437227405312 from by decide]
 split
 · rfl
 · split
   · rfl
   · split
     · rfl
     · omega
theorem RS(m:Nat):FloatKind.f64.nearest (m:Int)≤9218868437227405312:=by
 unfold FloatKind.nearest FloatKind.encode;have d:decide ((m:Int)<0)=false:=by simp
 rw[d];show double.nearest false m 0≤_;unfold Format.nearest
 split
 · decide
 · simp only[Format.word,Bool.false_eq_true,if_false]
   exact Nat.le_trans (Nat.min_le_right _ _) dC
theorem fG{x:Nat}(h:x≤9218868437227405312):Op.negFloat .f64 x % 9223372036854775808=x:=by
 have e:(9223372036854775808:Nat)=2 ^ 63:=dC;have d:(FloatKind.f64.format.exponentBits+FloatKind.f64.format.fractionBits)=63:=dC;unfold Op.negFloat;rw[e,d,Nat.xor_mod_two_pow,Nat.mod_self,Nat.xor_zero,Nat.mod_eq_of_lt (by omega)]
theorem ZW:∀n:Fin 15,(double.read (G3.getD n.val 0)).isNaN=false∧(double.read (G3.getD n.val 0)).isInfinity=false∧(double.read (G3.getD n.val 0)).isZero=false:=by decide +kernel
theorem S8(neg:Bool)(m n:Nat)(h:n<15):∃r,FloatKind.f64.format.div (if neg then Op.negFloat .f64 (FloatKind.f64.nearest (m:Int)) else FloatKind.f64.nearest (m:Int)) (G3.getD n 0)=some r:=by
 have d:=RS m
 have D:(double.read (if neg then Op.negFloat .f64 (FloatKind.f64.nearest (m:Int)) else FloatKind.f64.nearest (m:Int))).isNaN=false:=by
   apply Zr
   cases neg with
   |true=>rw[if_pos C,fG d];exact d
   |false=>rw[if_neg (by decide),Nat.mod_eq_of_lt (by omega)];exact d
 obtain⟨r,F⟩:=Yx (k:=double.fractionBits+2) D (ZW ⟨n,h⟩);exact⟨double.write r,congrArg (Option.map double.write) F⟩
end Go.SP
namespace Go.SP
variable {n:Nat}
theorem TR(h:n<15):G3[n]?=some (G3.getD n 0):=by
 have d:n<G3.length:=h;rw[List.getD_eq_getElem?_getD,List.getElem?_eq_getElem d];rfl
end Go.SP
namespace Go.Proofs.YtelmolopaolbcaaGreatDoor
open Go.SW Go.SP Go.RowKit Go.Proofs.Tryz
theorem gZ(w:wO)(c:UInt8)(r:lU)(J:48≤c.toNat∧c.toNat≤57) :
  Bq prog 205 #[S (c::r),S [105,110,102,105,110,105,116,121]] w λv w'=>v=iV 0∧AU w w':=by
 have d:=AU.refl w;refine enter func205 C C C<|AT [] 11 [] (Ar _) (λ_=>Ab C (kQ C C)<|AL [.sq _] 10 [] (Ar _) (λ_=>?_));refine DU (λk σ ds w'=>k=1∧ds=[]∧σ=(E4 0 (S (c::r)) 1 (S [105,110,102,105,110,105,116,121]) 5 (iV (if (((c::r).length:Nat):Int)<(([105,110,102,105,110,105,116,121]:lU).length:Int) then (((c::r).length:Nat):Int) else (([105,110,102,105,110,105,116,121]:lU).length:Int))) 6 (iV 0))∧AU w w') 1 (E4 0 (S (c::r)) 1 (S [105,110,102,105,110,105,116,121]) 5 (iV (if (((c::r).length:Nat):Int)<(([105,110,102,105,110,105,116,121]:lU).length:Int) then (((c::r).length:Nat):Int) else (([105,110,102,105,110,105,116,121]:lU).length:Int))) 6 (iV 0)) lE ⟨C,C,C,d⟩ ?_;rintro _ _ _ wl ⟨rfl,rfl,rfl,d⟩;refine AT [] 8 [] (Ar _) (λ_=>sP 15 C (λh=>?_) (λh=>?_));refine AT [.sq _] 9 [] (Ar _) (λ_=>Ab C (D2 (c:=c) C C JQ dC C)<|AL [.sq _,.bk _,.sq _] 9 [] (Ar _) (λ_=>sL 23 C (λD=>?_) (λD=>?_)))
 ·
  exfalso;have F:=dT D;omega
 refine AL [.sq _,.sq _,.bk _,.sq _] 13 [] (Ar _) (λ_=>Ab C (D2 (c:=105) C C JQ dC C)<|AL [.sq _,.bk _,.sq _] 3 [] (Ar _) (λ_=>sP 33 C (λG=>?_) (λG=>?_)));exact AT [.bk _,.sq _] 10 [] (Ar _) (λ_=>Yw<|K5 [.bk _,.sq _] 2 [] (Ar _) (λ_=>Bp (AE C (Ah C))<|⟨C,d⟩))
 ·
  exfalso;exact absurd (show (c.toNat:Int)=105 by simpa using G) oM
 ·
  exfalso;have F:=dF h;revert F;simp only[List.length_cons,List.length_nil];split <;> omega
theorem Uq(w:wO)(c:UInt8)(r:lU)(Q:48≤c.toNat∧c.toNat≤57) :
  Bq prog 191 #[S (c::r)] w λv w'=>v=.tuple #[.float .f64 0,iV 0,.bool false]∧AU w w':=by
 have O:=AU.refl w;refine enter func191 C C C<|AT [] 15 [] (Ar _) (λ_=>sP 10 C (λh=>?_) (λh=>?_))
 ·
  exfalso;have d:=(beq_iff_eq).1 h;simp only[List.length_cons] at d;omega
 refine AT [.sq _] 17 [] (Ar _) (λ_=>Ab C (D2 (c:=c) C C JQ dC C)<|AL [.sq _,.sq _] 18 [] (Ar _) (λ_=>sP 13 C (λD=>?_) (λD=>?_)))
 ·
  exfalso;have d:=(beq_iff_eq).1 D;omega
 refine AT [.sq _,.sq _,.sq _,.bk _,.sq _,.bk _,.sq _,.bk _,.sq _,.bk _,.sq _] 6 [] (Ar _) (λ_=>sP 13 C (λF=>?_) (λF=>?_))
 ·
  exfalso;have d:=(beq_iff_eq).1 F;omega
 refine AT [.sq _,.sq _,.bk _,.sq _,.bk _,.sq _,.bk _,.sq _,.bk _,.sq _] 11 [] (Ar _) (λ_=>sP 16 C (λG=>?_) (λG=>?_))
 ·
  exfalso;have d:=(beq_iff_eq).1 G;omega
 refine AT [.sq _,.sq _,.sq _,.bk _,.sq _,.bk _,.sq _,.bk _,.sq _,.bk _,.sq _] 6 [] (Ar _) (λ_=>sP 16 C (λJ=>?_) (λJ=>?_))
 ·
  exfalso;have d:=(beq_iff_eq).1 J;omega
 refine AT [.sq _,.sq _,.bk _,.sq _,.bk _,.sq _,.bk _,.sq _,.bk _,.sq _] 10 [] (Ar _) (λ_=>sP 19 C (λK=>?_) (λK=>?_))
 ·
  exfalso;have d:=(beq_iff_eq).1 K;omega
 refine AT [.sq _,.sq _,.bk _,.sq _,.bk _,.sq _,.bk _,.sq _,.bk _,.sq _] 6 [] (Ar _) (λ_=>sP 19 C (λL=>?_) (λL=>?_))
 ·
  exfalso;have d:=(beq_iff_eq).1 L;omega
 exact AT [.sq _,.bk _,.sq _,.bk _,.sq _,.bk _,.sq _,.bk _,.sq _] 20 [] (Ar _) (λ_=>Bp (DP C (Ah C) (Ah C) (Ah C))<|⟨C,O⟩)
theorem Up(w:wO)(c:UInt8)(r:lU)(F:48≤c.toNat∧c.toNat≤57) :
  Bq prog 191 #[S (45::c::r)] w λv w'=>v=.tuple #[.float .f64 0,iV 0,.bool false]∧AU w w':=by
 have h:=AU.refl w;refine enter func191 C C C<|AT [] 15 [] (Ar _) (λ_=>sP 10 C (λD=>?_) (λD=>?_))
 ·
  exfalso;have G:=(beq_iff_eq).1 D;simp only[List.length_cons] at G;omega
 refine AT [.sq _] 17 [] (Ar _) (λ_=>Ab C (D2 (c:=45) C C JQ dC C)<|AL [.sq _,.sq _] 34 [] (Ar _) (λ_=>Ab C (D2 (c:=45) C C JQ dC C)<|AL [.sq _,.sq _,.bk _,.sq _,.bk _,.sq _,.bk _,.sq _] 15 [] (Ar _) (λ_=>Ab C (MA C C JQ)<|AL [.bk _,.sq _,.bk _,.sq _,.bk _,.sq _] 8 [] (Ar _) (λ_=>A4 C (Ax vB C C) (gZ _ c r F) ?_))));rintro _ K ⟨rfl,d⟩;replace h:=h.trans d;have J:=d.size;exact AL [.sq _,.sq _,.bk _,.sq _,.bk _,.sq _] 43 [] (Ar _) (λ_=>Bp (DP C (Ah C) (Ah C) (Ah C))<|⟨C,h⟩)
theorem UJ(w:wO)(c:UInt8)(d:46≤c.toNat∧c.toNat≤57) :
  Bq prog 180 #[.int .u8 c.toNat] w λv w'=>v=.int .u8 c.toNat∧AU w w':=by
 have h:=AU.refl w;exact enter func180 C C C<|AT [] 8 [] (Ar _) (λ_=>Ab C (fP (c.toNat:Int) C C (Aa2 ⟨c.toNat,oM⟩ d.1))<|AL [.sq _] 4 [] (Ar _) (λ_=>Bp (AE C (Ah C))<|⟨C,h⟩))
theorem NL(w:wO)(s:lU)(a b:lU)(ha:Hr a)(hb:Hr b)(J:a≠[])(hbne:b≠[])(hab:a.length+b.length≤15)(neg:Bool)(hs:s=(bif neg then [45] else [])++(a++46::b)) :
  Bq prog 192 #[S s] w λv w'=>v=.tuple #[.int .u64 (CQ 0 (a++b):Int),iV (if CQ 0 (a++b)=0 then 0 else -(b.length:Int)),.bool neg,.bool false,.bool false,iV (s.length:Int),.bool true]∧AU w w':=by
 have hal:1≤a.length:=List.length_pos_iff.2 J;have hbl:1≤b.length:=List.length_pos_iff.2 hbne
 obtain⟨a0,ar,Y⟩:∃c r,a=c::r:=by
  cases a with
  |nil=>exact absurd C J
  |cons c r=>exact⟨c,r,C⟩
 obtain⟨o,ho,ho1⟩:∃o,(bif neg then 1 else 0:Nat)=o∧o≤1:=⟨_,C,by cases neg <;> decide⟩;have Z:s.drop o=a++46::b:=by subst ho;rw[hs];cases neg <;> rfl
 have hlo:s.length=o+(a.length+(b.length+1)):=by subst ho;rw[hs];cases neg <;> simp <;> omega
 obtain⟨c0,hc0,hcn⟩:∃c:UInt8,s[0]?=some c∧(c.toNat=45∧neg=true∨(48≤c.toNat∧c.toNat≤57)∧neg=false):=by
  cases neg with
  |true=>exact⟨45,by rw[hs];rfl,.inl ⟨C,C⟩⟩
  |false=>exact⟨a0,by rw[hs,Y];rfl,.inr ⟨ha a0 (Y▸List.mem_cons_self),C⟩⟩
 have ha0:s[o]?=some a0:=by rw[← Nat.add_zero o,← List.getElem?_drop,Z,Y];rfl
 obtain⟨a1,ha1,ha1d⟩:=XT (s:=s) (b:=b) o ha J Z;have F:=AU.refl w;refine enter func192 C C C<|AT [] 11 [] (Ar _) (λ_=>XR<|AT [] 14 [] (Ar _) (λ_=>sP 24 C (λQ=>?_) (λQ=>?_)))
 ·
  exfalso;have d:=dT Q;omega
 refine AT [.sq _] 3 [] (Ar _) (λ_=>RV (E9 0 (S s) 2 (.int .u64 0) 3 (iV 0) 4 (.bool neg) 5 (.bool false) 6 (.bool false) 7 (iV (o:Int)) 8 (.bool false) 9 (.bool false)) (λw'=>AU w w') ?_ ?_);refine AT [] 4 [] (Ar _) (λ_=>Ab C (D2 (c:=c0) C C JQ dC hc0)<|AL [.sq _] 9 [] (Ar _) (λ_=>sP 28 C (λh2=>?_) (λh2=>?_)))
 ·
  exfalso;have d:=(beq_iff_eq).1 h2;omega
 refine AT [.bk _] 7 [] (Ar _) (λ_=>sP 32 C (λh3=>?_) (λh3=>?_));refine AT [.bk _] 2 [] (Ar _) (λ_=>?_);obtain rfl:neg=true:=by have d:(c0.toNat:Int)=45:=(beq_iff_eq).1 h3;rcases hcn with h|h;exact h.2;omega
 subst ho;exact AT [.sq _,.bk _] 2 [] (Ar _) (λ_=>Ab C (Nn (1) C C dC)<|AL [.sq _,.bk _] 7 [] (Ar _) (λ_=>Q1 lE F));obtain rfl:neg=false:=by have d:¬(c0.toNat:Int)=45:=(by simpa using h3);rcases hcn with h|h;omega;exact h.2
 subst ho;exact AT [.bk _] 3 [] (Ar _) (λ_=>Q1 lE F);rintro wl F;refine AT [] 15 [] (Ar _) (λ_=>RV (yC 0 (S s) 2 (.int .u64 0) 3 (iV 0) 4 (.bool neg) 5 (.bool false) 6 (.bool false) 7 (iV (o:Int)) 8 (.bool false) 9 (.bool false) 10 (.int .u64 10) 11 (iV 19)) (λw'=>AU w w') ?_ ?_);refine AT [] 8 [] (Ar _) (aI ⟨oM,oM⟩<|λ_=>sL 41 C (λh4=>?_) (λh4=>?_));refine AL [.sq _] 2 [] (Ar _) (λ_=>B7 C C C<|Ab C (D2 (c:=a0) C C JQ oM (by rw[Int.toNat_natCast];exact ha0))<|AL [.sq _] 3 [] (Ar _) (λ_=>sL 47 C (λh5=>?_) (λh5=>?_)));refine AL [.sq _] 3 [] (Ar _) (aI ⟨oM,oM⟩<|λ_=>B7 C C C<|Ab C (D2 (c:=a1) C C JQ oM ha1)<|B7 C C C<|A4 C (Ax sE C C) (UJ _ a1 ha1d) ?_);rintro _ w1 ⟨rfl,hE1⟩;replace F:=F.trans hE1;have sz1:=hE1.size;refine AL [.sq _] 4 [] (Ar _) (λ_=>sP 54 C (λh6=>?_) (λh6=>?_))
 ·
  exfalso;have d:=(beq_iff_eq).1 h6;omega
 exact AT [] 2 [] (Ar _) (λ_=>Q1 lE F);exact AL [.sq _] 11 [] (Ar _) (λ_=>Q1 lE F)
 ·
  exfalso;have d:=dF h4;omega
 rintro wl F;refine AT [] 26 [] (Ar _) (λ_=>Yt<|K5 [.sq _] 3 [] (Ar _) (λ_=>?_));refine DU (λk σ ds w'=>∃(j m nd:Nat)(K:Int)(dot sd:Bool)(rest:lU),k=rest.length∧ds=[]∧σ=(yB 0 (S s) 2 (.int .u64 (m:Int)) 3 (iV 0) 4 (.bool neg) 5 (.bool false) 6 (.bool false) 7 (iV (j:Int)) 8 (.bool false) 9 (.bool false) 10 (.int .u64 10) 11 (iV 19) 13 (.bool dot) 14 (.bool sd) 15 (iV (nd:Int)) 16 (iV (nd:Int)) 17 (iV K))∧s.drop j=rest∧j+rest.length=s.length∧FV b dot rest∧CQ 0 (a++b)=CQ m (JE rest)∧(dot=true→K=(nd:Int)-((b.length:Int)-rest.length))∧nd≤j ∧ -(j:Int)≤K∧K≤j∧(nd=0↔m=0)∧(sd=true∨rest=a++46::b)∧AU w w') (a++46::b).length (yB 0 (S s) 2 (.int .u64 ((0:Nat):Int)) 3 (iV 0) 4 (.bool neg) 5 (.bool false) 6 (.bool false) 7 (iV (o:Int)) 8 (.bool false) 9 (.bool false) 10 (.int .u64 10) 11 (iV 19) 13 (.bool false) 14 (.bool false) 15 (iV ((0:Nat):Int)) 16 (iV ((0:Nat):Int)) 17 (iV 0)) lE ⟨o,0,0,0,false,false,a++46::b,C,C,C,Z,by rw[hlo];simp <;> omega,⟨a,C,ha⟩,by rw[YV ha hb],(λh=>by cases h),oM,oM,oM,by simp,.inr C,F⟩ ?_;rintro _ _ _ wl ⟨j,m,nd,K,dot,sd,rest,rfl,rfl,rfl,L,G,hfv,D,U,hnd,hd1,hd2,O,hsd,F⟩;have hml:m<1000000000000000:=by have Q:=Q7 (JE rest) m;have h2:=Py (l:=a++b) (λx hx=>(List.mem_append.1 hx).elim (ha x) (hb x)) (by rw[List.length_append];exact hab);omega
 have hsl:s.length≤17:=oM;refine AT [] 9 [] (Ar _) (λ_=>sP 60 C (λh7=>?_) (λh7=>?_));refine AT [.sq _] 7 [] (Ar _) (λ_=>?_);rcases rest with _|⟨c,r⟩
 · exfalso;have d:=dT h7;simp at G;omega
 have hcj:s[j]?=some c:=Rs L;have hcl:=hfv.cons;have hc46:46≤c.toNat∧c.toNat≤57:=hcl.elim (λh=>by rw[h.1];decide) (λh=>by omega);refine AT [.sq _,.sq _,.bk _,.sq _] 3 [] (Ar _) (λ_=>Ab C (D2 (c:=c) C C JQ oM (by rw[Int.toNat_natCast];exact hcj))<|AL [.sq _,.sq _,.bk _,.sq _] 8 [] (Ar _) (λ_=>Ab C (RE un4 C C)<|AL [.sq _,.bk _,.sq _,.bk _,.sq _] 3 [] (Ar _) (λ_=>sP 66 C (λh8=>?_) (λh8=>?_))))
 ·
  exfalso;have d:=(beq_iff_eq).1 h8;omega
 refine AT [.bk _,.sq _,.bk _,.sq _] 5 [] (Ar _) (λ_=>Ab C (RE un4 C C)<|AL [.sq _,.bk _,.sq _,.bk _,.sq _] 3 [] (Ar _) (λ_=>sP 70 C (λd=>?_) (λd=>?_)));refine AT [.bk _,.sq _,.bk _,.sq _] 3 [] (Ar _) (λ_=>?_);have hc6:(c.toNat:Int)=46:=by simpa using d
 obtain⟨hc6,hdf,hrb⟩:c=46∧dot=false∧r=b:=hcl.elim id (λh=>by omega);replace hrb:=hrb.symm;subst hdf hrb hc6;have hsd2:sd=true:=hsd.resolve_right (λh=>by cases a with|nil=>exact J C|cons x a=>simp at h;have:=ha x (.head _);rw[← h.1] at this;revert this;decide);refine AT [.sq _,.sq _,.bk _,.sq _,.bk _,.sq _] 28 [] (Ar _) (aI ⟨oM,oM⟩<|λ_=>HF b.length (yB 0 (S s) 2 (.int .u64 (m:Int)) 3 (iV 0) 4 (.bool neg) 5 (.bool false) 6 (.bool false) 7 (iV ((j+1:Nat):Int)) 8 (.bool false) 9 (.bool false) 10 (.int .u64 10) 11 (iV 19) 13 (.bool true) 14 (.bool sd) 15 (iV (nd:Int)) 16 (iV (nd:Int)) 17 (iV (nd:Int))) (by simp) lE ⟨j+1,m,nd,(nd:Int),true,sd,b,C,C,C,Kl L,by simp only[List.length_cons] at G;omega,⟨hb,Nat.le_refl _⟩,by rw[D,PC],(λ_=>by omega),oM,oM,oM,O,.inl hsd2,F⟩);refine AT [.bk _,.sq _,.bk _,.sq _] 2 [] (Ar _) (λ_=>?_);have hn6:(c.toNat:Int)≠46:=by simpa using d
 obtain⟨hcd,hfr⟩:(48≤c.toNat∧c.toNat≤57)∧FV b dot r:=hcl.elim (λh=>absurd (by rw[h.1];rfl) hn6) id;refine AT [.sq _,.bk _,.sq _,.bk _,.sq _] 4 [] (Ar _) (λ_=>sL 79 C (λh10=>?_) (λh10=>?_));refine AL [.sq _,.bk _,.sq _,.bk _,.sq _] 3 [] (Ar _) (λ_=>Ab C (RE un4 C C)<|AL [.sq _,.bk _,.sq _,.bk _,.sq _] 3 [] (Ar _) (λ_=>sP 76 C (λh11=>?_) (λh11=>?_)));refine AT [.bk _,.sq _,.bk _,.sq _] 12 [] (Ar _) (λ_=>sL 86 C (λh12=>?_) (λh12=>?_));refine AL [.sq _,.sq _,.bk _,.sq _,.bk _,.sq _] 5 [] (Ar _) (λ_=>sP 89 C (λh13=>?_) (λh13=>?_));refine AT [.sq _,.bk _,.sq _,.bk _,.sq _] 19 [] (Ar _) (aI ⟨oM,oM⟩<|aI ⟨oM,oM⟩<|λ_=>?_);have hm0:m=0:=O.1 (by have:=h13;simp at this;omega);have hc0:c.toNat=48:=by have:=h12;simp at this;omega
 refine HF r.length (yB 0 (S s) 2 (.int .u64 (m:Int)) 3 (iV 0) 4 (.bool neg) 5 (.bool false) 6 (.bool false) 7 (iV ((j+1:Nat):Int)) 8 (.bool false) 9 (.bool false) 10 (.int .u64 10) 11 (iV 19) 13 (.bool dot) 14 (.bool true) 15 (iV (nd:Int)) 16 (iV (nd:Int)) 17 (iV (K-1))) (by simp) lE ⟨j+1,m,nd,K-1,dot,true,r,C,C,C,Kl L,by simp only[List.length_cons] at G;omega,hfr,by rw[D,II hcd,OX,hc0,hm0],(λh=>by have Q:=U h;simp only[List.length_cons] at Q;omega),oM,oM,oM,O,.inl C,F⟩;refine AT [.sq _,.bk _,.sq _,.bk _,.sq _] 4 [] (Ar _) (λ_=>?_)
 have hnz:¬(m*10+(c.toNat-48)=0):=by
  intro d;have hm9:m=0:=oM;have hn9:=O.2 hm9;have h8:=h13;simp at h8;omega
 refine AT [.sq _,.bk _,.sq _,.bk _,.sq _] 14 [] (Ar _) (aI ⟨oM,oM⟩<|λ_=>sP 96 C (λh14=>?_) (λh14=>?_));refine AT [.sq _,.bk _,.sq _,.bk _,.sq _] 5 [] (Ar _) (λ_=>Ab C (Rp ((m:Int)*10) C C (GL ⟨oM,oM⟩))<|AL [.sq _,.sq _,.bk _,.sq _,.bk _,.sq _] 7 [] (Ar _) (λ_=>Ab C (Gi ((c.toNat:Int)-48) C C (Xq ⟨oM,oM⟩))<|Ab C (BJ (m:=(c.toNat:Int)-48) C VZ (GL ⟨oM,oM⟩))<|Ab C (Nn ((m:Int)*10+((c.toNat:Int)-48)) C C (GL ⟨oM,oM⟩))<|AL [.sq _,.sq _,.bk _,.sq _,.bk _,.sq _] 19 [] (Ar _) (aI ⟨oM,oM⟩<|aI ⟨oM,oM⟩<|λ_=>?_)));have hme:(m:Int)*10+((c.toNat:Int)-48)=((m*10+(c.toNat-48):Nat):Int):=oM;refine HF r.length (yB 0 (S s) 2 (.int .u64 ((m*10+(c.toNat-48):Nat):Int)) 3 (iV 0) 4 (.bool neg) 5 (.bool false) 6 (.bool false) 7 (iV ((j+1:Nat):Int)) 8 (.bool false) 9 (.bool false) 10 (.int .u64 10) 11 (iV 19) 13 (.bool dot) 14 (.bool true) 15 (iV ((nd+1:Nat):Int)) 16 (iV ((nd+1:Nat):Int)) 17 (iV K)) (by simp) (yK C (hme▸rfl) C C C C C C C C C C C C C C) ⟨j+1,m*10+(c.toNat-48),nd+1,K,dot,true,r,C,C,C,Kl L,by simp only[List.length_cons] at G;omega,hfr,by rw[D,II hcd,OX],(λh=>by have Q:=U h;simp only[List.length_cons] at Q;omega),oM,oM,oM,⟨λh=>by omega,λh=>?_⟩,.inl C,F⟩;exfalso;have hz:=hnz;omega
 ·
  exfalso;have d:=dF h14;omega
 refine AL [.sq _,.sq _,.bk _,.sq _,.bk _,.sq _] 9 [] (Ar _) (λ_=>?_)
 have hnz:¬(m*10+(c.toNat-48)=0):=by
  intro d;have hm9:m=0:=oM;have hn9:=O.2 hm9;have h8:=h12;simp at h8;omega
 refine AT [.sq _,.bk _,.sq _,.bk _,.sq _] 14 [] (Ar _) (aI ⟨oM,oM⟩<|λ_=>sP 96 C (λh15=>?_) (λh15=>?_));refine AT [.sq _,.bk _,.sq _,.bk _,.sq _] 5 [] (Ar _) (λ_=>Ab C (Rp ((m:Int)*10) C C (GL ⟨oM,oM⟩))<|AL [.sq _,.sq _,.bk _,.sq _,.bk _,.sq _] 7 [] (Ar _) (λ_=>Ab C (Gi ((c.toNat:Int)-48) C C (Xq ⟨oM,oM⟩))<|Ab C (BJ (m:=(c.toNat:Int)-48) C VZ (GL ⟨oM,oM⟩))<|Ab C (Nn ((m:Int)*10+((c.toNat:Int)-48)) C C (GL ⟨oM,oM⟩))<|AL [.sq _,.sq _,.bk _,.sq _,.bk _,.sq _] 19 [] (Ar _) (aI ⟨oM,oM⟩<|aI ⟨oM,oM⟩<|λ_=>?_)));have hme:(m:Int)*10+((c.toNat:Int)-48)=((m*10+(c.toNat-48):Nat):Int):=oM;refine HF r.length (yB 0 (S s) 2 (.int .u64 ((m*10+(c.toNat-48):Nat):Int)) 3 (iV 0) 4 (.bool neg) 5 (.bool false) 6 (.bool false) 7 (iV ((j+1:Nat):Int)) 8 (.bool false) 9 (.bool false) 10 (.int .u64 10) 11 (iV 19) 13 (.bool dot) 14 (.bool true) 15 (iV ((nd+1:Nat):Int)) 16 (iV ((nd+1:Nat):Int)) 17 (iV K)) (by simp) (yK C (hme▸rfl) C C C C C C C C C C C C C C) ⟨j+1,m*10+(c.toNat-48),nd+1,K,dot,true,r,C,C,C,Kl L,by simp only[List.length_cons] at G;omega,hfr,by rw[D,II hcd,OX],(λh=>by have Q:=U h;simp only[List.length_cons] at Q;omega),oM,oM,oM,⟨λh=>by omega,λh=>?_⟩,.inl C,F⟩;exfalso;have hz:=hnz;omega
 ·
  exfalso;have d:=dF h15;omega
 ·
  exfalso;have d:=dF h11;omega
 ·
  exfalso;have d:=dF h10;omega
 refine AT [.sq _] 3 [] (Ar _) (λ_=>OJ<|K5 [.bk _,.sq _] 4 [] (Ar _) (λ_=>?_));have hrn:rest=[]:=by cases rest with|nil=>rfl|cons x r=>exfalso;have d:=dF h7;simp only[List.length_cons] at G;omega
 subst hrn;have hdt:=hfv.nil;subst hdt;have hst:sd=true:=hsd.resolve_right (λh=>by cases a <;> cases h);subst hst;have hdp2:=U C;simp only[List.length_nil] at hdp2 G;have hM:CQ 0 (a++b)=m:=by rw[D];exact iC m
 refine AT [.sq _,.sq _] 36 [] (Ar _) (λ_=>sL 154 C (λDR=>?_) (λDR=>?_))
 ·
  exfalso;have d:=dT DR;omega
 refine AL [.sq _,.sq _] 26 [] (Ar _) (λ_=>sP 241 C (λh17=>?_) (λh17=>?_));exact AT [.sq _] 30 [] (Ar _) (aI ⟨oM,oM⟩<|λ_=>oQ<|Bp (qY C (Ah C) (Ah C) (Ah C) (Ah C) (Ah C) (Ah C) (Ah C))<|⟨by rw[if_neg (by rw[hM];have d:=h17;simp at d;omega),hM,show K-(nd:Int) = -(b.length:Int) by omega,show ((j:Nat):Int)=(s.length:Int) by omega],F⟩);exact AT [.sq _] 25 [] (Ar _) (λ_=>oQ<|Bp (qY C (Ah C) (Ah C) (Ah C) (Ah C) (Ah C) (Ah C) (Ah C))<|⟨by rw[if_pos (by rw[hM];have d:=h17;simp at d;omega),hM,show ((j:Nat):Int)=(s.length:Int) by omega],F⟩)
theorem uW:Extern.findNext Tryz.f201=none:=kR
theorem vQ:Extern.find Tryz.f201=some Extern.MathFloatBits.float64frombits:=kR
theorem Y9:cvF prog 43 213=some .f64:=kR
theorem U3(w:wO)(L:Gl w)(m n:Nat)(neg:Bool)(hm:m<1000000000000000)(hn:1≤n∧n≤14) :
  Bq prog 202 #[.int .u64 (m:Int),iV (-(n:Int)),.bool neg] w λv w'=>v=.tuple #[.float .f64 ((FloatKind.f64.format.div (if neg then Op.negFloat .f64 (FloatKind.f64.nearest (m:Int)) else FloatKind.f64.nearest (m:Int)) (G3.getD n 0)).getD 0),.bool true]∧AU w w':=by
 obtain⟨pb,po,pn,pc,G,hp2,J⟩:=L.pow10;have D:=AU.refl w;refine enter func202 C C C<|AT [] 11 [] (Ar _) (λ_=>Ab C (I6 C ti208 (L.ext D).finfo)<|Ab C (WV 0 C C dC (by rw[show min (52:Int).toNat IntKind.u64.bits=52 by decide,Tb,Nat.div_eq_of_lt (by omega)];rfl))<|AL [.sq _,.sq _] 9 [] (Ar _) (λ_=>Ab C (sF C Y9)<|AL [.sq _] 9 [] (Ar _) (λ_=>sP 15 C (λK=>?_) (λK=>?_))));refine AT [.sq _] 3 [] (Ar _) (λ_=>Ab C (kK C)<|AL [.sq _] 12 [] (Ar _) (λ_=>sP 18 C (λO=>?_) (λO=>?_)))
 ·
  exfalso;have d:=(beq_iff_eq).1 O;omega
 refine AT [.bk _,.sq _] 6 [] (Ar _) (λ_=>sL 25 C (λQ=>?_) (λQ=>?_))
 ·
  exfalso;have d:=dT Q;omega
 refine AL [.sq _,.bk _,.sq _] 12 [] (Ar _) (λ_=>sL 53 C (λU=>?_) (λU=>?_));refine AL [.sq _,.bk _,.sq _] 6 [] (Ar _) (λ_=>sP 50 C (λY=>?_) (λY=>?_));refine AT [.bk _,.sq _] 2 [] (Ar _) (λ_=>?_);obtain⟨r,h⟩:=S8 neg m n oM;rw[K] at h;simp only[Bool.false_eq_true,if_true,if_false] at h;have F:=TR (show n<15 by omega);refine AT [.sq _,.bk _,.sq _] 2 [] (Ar _) (λ_=>Ab C (I6 C qC (E1 G D))<|Ab C (Az C)<|Ab C (LO (n:Int) C (by rw[Gm ⟨by omega,by omega⟩];omega))<|Ab C (KL (i:=n) C C oS oM)<|Ab C (I6 C pT (by rw[Nat.mul_one];exact E1 (J n _ F) D))<|Ab C (Xd C C h)<|AL [.sq _,.bk _,.sq _] 7 [] (Ar _) (λ_=>Bp (Cn C (Ah C) (Ah C))<|⟨?_,D⟩));rw[K];simp only[Bool.false_eq_true,if_true,if_false];rw[h];rfl
 ·
  exfalso;have d:=dF Y;omega
 ·
  exfalso;have d:=dF U;omega
 refine AT [.sq _] 12 [] (Ar _) (λ_=>sP 18 C (λZ=>?_) (λZ=>?_))
 ·
  exfalso;have d:=(beq_iff_eq).1 Z;omega
 refine AT [.bk _,.sq _] 6 [] (Ar _) (λ_=>sL 25 C (λh7=>?_) (λh7=>?_))
 ·
  exfalso;have d:=dT h7;omega
 refine AL [.sq _,.bk _,.sq _] 12 [] (Ar _) (λ_=>sL 53 C (λh8=>?_) (λh8=>?_));refine AL [.sq _,.bk _,.sq _] 6 [] (Ar _) (λ_=>sP 50 C (λd=>?_) (λd=>?_));refine AT [.bk _,.sq _] 2 [] (Ar _) (λ_=>?_);obtain⟨r,h⟩:=S8 neg m n oM;rw[K] at h;simp only[Bool.false_eq_true,if_true,if_false] at h;have F:=TR (show n<15 by omega);refine AT [.sq _,.bk _,.sq _] 2 [] (Ar _) (λ_=>Ab C (I6 C qC (E1 G D))<|Ab C (Az C)<|Ab C (LO (n:Int) C (by rw[Gm ⟨by omega,by omega⟩];omega))<|Ab C (KL (i:=n) C C oS oM)<|Ab C (I6 C pT (by rw[Nat.mul_one];exact E1 (J n _ F) D))<|Ab C (Xd C C h)<|AL [.sq _,.bk _,.sq _] 7 [] (Ar _) (λ_=>Bp (Cn C (Ah C) (Ah C))<|⟨?_,D⟩));rw[K];simp only[Bool.false_eq_true,if_true,if_false];rw[h];rfl
 ·
  exfalso;have d:=dF d;omega
 ·
  exfalso;have d:=dF h8;omega
theorem Wg(w:wO)(neg:Bool) :
  Bq prog 200 #[.bool neg] w λv w'=>v=.int .u64 (if neg then 1 else 0)∧AU w w':=by
 have h:=AU.refl w;refine enter func200 C C C<|AT [] 11 [] (Ar _) (λ_=>sP 3 C (λd=>?_) (λd=>?_));exact AT [.sq _] 8 [] (Ar _) (λ_=>Bp (AE C (Ah C))<|⟨by rw[d];rfl,h⟩);exact AT [.sq _] 9 [] (Ar _) (λ_=>Bp (AE C (Ah C))<|⟨by rw[d];rfl,h⟩)
theorem SO(w:wO)(s a b:lU)(neg:Bool)(F:Hr a)(d:a≠[])(h:s=if neg then 45::(a++46::b) else a++46::b) :
  Bq prog 191 #[S s] w λv w'=>v=.tuple #[.float .f64 0,iV 0,.bool false]∧AU w w':=by
 cases a with
 |nil=>exact absurd C d
 |cons c r =>
  have D:=F c (.head _)
  cases neg with
  |true=>rw[h];exact Up w c (r++46::b) D
  |false=>rw[h];exact Uq w c (r++46::b) D
theorem P1(w:wO)(s a b:lU)(neg:Bool)(F:Hr a)(G:Hr b)(d:a≠[])(h:b≠[])(D:a.length+b.length≤15)(J:s=if neg then 45::(a++46::b) else a++46::b) :
  Bq prog 192 #[S s] w λv w'=>v=.tuple #[.int .u64 (CQ 0 (a++b):Int),iV (if CQ 0 (a++b)=0 then 0 else -(b.length:Int)),.bool neg,.bool false,.bool false,iV (s.length:Int),.bool true]∧AU w w':=by
 cases neg with
 |true=>exact NL w s a b F G d h D true J
 |false=>exact NL w s a b F G d h D false J
theorem Ua(w:wO)(hG:Gl w)(s:lU)(a b:lU)(U:Hr a)(hb:Hr b)(h:a≠[])(F:b≠[])(J:a.length+b.length≤15)(neg:Bool)(hs:s=if neg then 45::(a++46::b) else a++46::b) :
  Bq prog 185 #[S s] w λv w'=>v=.tuple #[.float .f64 (MC neg a b),iV (s.length:Int),.nilIface]∧AU w w':=by
 have hal:1≤a.length:=List.length_pos_iff.2 h;have hbl:1≤b.length:=List.length_pos_iff.2 F;have Y:=Py (l:=a++b) (λx hx=>(List.mem_append.1 hx).elim (U x) (hb x)) (by rw[List.length_append];exact J);have d:=AU.refl w;refine enter func185 C C C<|AT [] 11 [] (Ar _) (λ_=>A4 C (Ax xI C C) (SO _ s a b neg U h hs) ?_);rintro _ w1 ⟨rfl,K⟩;replace d:=d.trans K;have sz1:=K.size;refine AL [.sq _,.sq _] 20 [] (Ar _) (λ_=>A4 C (Ax xP C C) (P1 _ s a b neg U hb h F J hs) ?_);rintro _ w2 ⟨rfl,L⟩;replace d:=d.trans L;have sz2:=L.size;refine AL [.sq _] 39 [] (Ar _) (λ_=>Ab C (I6 C vG (hG.ext d).optimize)<|AL [.sq _,.sq _] 6 [] (Ar _) (λ_=>A4 C (Ax tT C C) (Wg _ neg) ?_));rintro _ w3 ⟨rfl,O⟩;replace d:=d.trans O;have sz3:=O.size;refine Ab C (Ka (if neg then 9223372036854775808 else 0) C C dC (by cases neg <;> decide))<|AL [.sq _,.sq _] 10 [] (Ar _) (λ_=>sP 69 C (λZ=>?_) (λZ=>?_));refine AT [.sq _,.sq _] 4 [] (Ar _) (λ_=>Ab C (fP (if neg then 9223372036854775808 else 0) C C (by cases neg <;> decide))<|Ab C (gS func201 C C uW vQ C C C)<|AL [.sq _,.sq _,.sq _] 9 [] (Ar _) (λ_=>Bp (DP C (Ah C) (Ah C) (Ah C)) ?_));have D:CQ 0 (a++b)=0:=by have G:=(beq_iff_eq).1 Z;omega
 exact⟨by cases neg <;> simp[MC,D],d⟩;refine AT [.sq _,.sq _] 10 [] (Ar _) (λ_=>sP 75 C (λh2=>?_) (λh2=>?_))
 ·
  exfalso;have G:=dT h2;revert G;split <;> omega
 refine AT [.sq _,.sq _] 10 [] (Ar _) (λ_=>sP 82 C (λh3=>?_) (λh3=>?_))
 ·
  exfalso;have G:=dT h3;revert G;split <;> omega
 refine AT [.sq _,.sq _] 16 [] (Ar _) (λ_=>?_);have D:¬CQ 0 (a++b)=0:=by have G:=Z;simp at G;omega
 refine A4 C (Ax sH C C) ((show (if CQ 0 (a++b)=0 then (0:Int) else -(b.length:Int)) = -(b.length:Int) from if_neg D)▸U3 _ (hG.ext d) (CQ 0 (a++b)) b.length neg Y oM) ?_;rintro _ w4 ⟨rfl,Q⟩;replace d:=d.trans Q;have sz4:=Q.size;exact AL [.sq _,.sq _,.sq _] 25 [] (Ar _) (λ_=>Bp (DP C (Ah C) (Ah C) (Ah C))<|⟨by rw[MC,if_neg D],d⟩)
theorem Jk(w:wO)(J:Gl w)(s:lU)(a b:lU)(K:Hr a)(L:Hr b)(d:a≠[])(h:b≠[])(G:a.length+b.length≤15)(neg:Bool)(O:s=if neg then 45::(a++46::b) else a++46::b) :
  Bq prog 170 #[S s,iV 64] w λv w'=>v=.tuple #[.float .f64 (MC neg a b),iV (s.length:Int),.nilIface]∧AU w w':=by
 have F:=AU.refl w;refine enter func170 C C C<|AT [] 20 [] (Ar _) (λ_=>A4 C (Ax uA C C) (Ua _ (J.ext F) s a b K L d h G neg O) ?_);rintro _ U ⟨rfl,D⟩;replace F:=F.trans D;have Q:=D.size;exact AL [.sq _] 9 [] (Ar _) (λ_=>Bp (DP C (Ah C) (Ah C) (Ah C))<|⟨C,F⟩)
theorem Mp(w:wO)(K:Gl w)(s:lU)(a b:lU)(L:Hr a)(O:Hr b)(d:a≠[])(h:b≠[])(G:a.length+b.length≤15)(neg:Bool)(Q:s=if neg then 45::(a++46::b) else a++46::b) :
  Bq prog 147 #[S s,iV 64] w λv w'=>v=.tuple #[.float .f64 (MC neg a b),.nilIface]∧AU w w':=by
 have F:=AU.refl w;refine enter func147 C C C<|AT [] 10 [] (Ar _) (λ_=>A4 C (Ax rU C C) (Jk _ (K.ext F) s a b L O d h G neg Q) ?_);rintro _ Y ⟨rfl,D⟩;replace F:=F.trans D;have U:=D.size;refine AL [.sq _] 18 [] (Ar _) (λ_=>sP 19 C (λJ=>?_) (λJ=>?_))
 ·
  exfalso;simp at J
 exact AT [.sq _] 12 [] (Ar _) (λ_=>Bp (Cn C (Ah C) (Ah C))<|⟨C,F⟩)
theorem MU(w:wO)(J:Gl w)(s:lU)(a b:lU)(K:Hr a)(L:Hr b)(d:a≠[])(h:b≠[])(G:a.length+b.length≤15)(neg:Bool)(O:s=if neg then 45::(a++46::b) else a++46::b) :
  Bq prog 129 #[S s,iV 64] w λv w'=>v=.tuple #[.float .f64 (MC neg a b),.nilIface]∧AU w w':=by
 have F:=AU.refl w;refine enter func129 C C C<|AT [] 10 [] (Ar _) (λ_=>A4 C (Ax vW C C) (Mp _ (J.ext F) s a b K L d h G neg O) ?_);rintro _ U ⟨rfl,D⟩;replace F:=F.trans D;have Q:=D.size;exact AL [.sq _] 11 [] (Ar _) (λ_=>Ab C (I1 G5 C)<|AL [.sq _,.sq _] 13 [] (Ar _) (λ_=>Bp (Cn C (Ah C) (Ah C))<|⟨C,F⟩))
theorem pfs:PFS:=λw s a b D hlen F=>by
 obtain⟨G,J,K,L,O,d⟩:=R2 F;refine MU w D s a b G J K L O (Pz s) ?_;rcases KP s with h|⟨r,rfl⟩
 · rw[h,if_neg (by decide),← d,IK h]
 ·
  rw[IM] at d;rw[d];rfl
end Go.Proofs.YtelmolopaolbcaaGreatDoor
namespace Go.SP
theorem Fo.len_snoc':∀(a:Fo)(t:AB)(k:Fo),(a.snoc t k).len=a.len+1
 |.nil,_,_=>rfl
 |.cons _ _ r,t,k=>by simp only[Fo.snoc,Fo.len,Fo.len_snoc' r t k]
theorem Fo.ok_snoc:∀(a:Fo)(t:AB)(k:Fo),a.ok→t.ok→k.ok→k.len≤100000→(a.snoc t k).ok
 |.nil,_,_,_,d,D,F=>⟨d,D,F,tQ⟩
 |.cons _ _ r,t,k,h,d,D,F=>⟨h.1,h.2.1,h.2.2.1,Fo.ok_snoc r t k h.2.2.2 d D F⟩
theorem Fo.deep_snoc:∀(a:Fo)(n:Nat)(t:AB)(k:Fo),a.deep (n+1)=true→k.deep n=true→(a.snoc t k).deep (n+1)=true
 |.nil,n,t,k,_,h=>by simp[Fo.snoc,Fo.deep,h]
 |.cons u l r,n,t,k,d,D=>by
   simp only[Fo.deep,Bool.and_eq_true] at d;simp only[Fo.snoc,Fo.deep,Bool.and_eq_true];exact⟨d.1,Fo.deep_snoc r n t k d.2 D⟩
def StI:Nat→List (AB×Fo)→Prop
 |_,[]=>True
 |i,(o,p)::s=>o.ok∧p.ok∧p.len≤i∧p.deep (201-s.length)=true∧StI i s
theorem StI.up:∀{i:Nat}{st:List (AB×Fo)},StI i st→StI (i+1) st
 |_,[],_=>trivial
 |_,_::_,⟨a,b,c,d,e⟩=>⟨a,b,Nat.le_succ_of_le c,d,e.up⟩
theorem Hz:∀(l:List AB)(i:Nat)(st:List (AB×Fo))(cur fo:Fo),(∀t∈l,t.ok)→i+l.length≤100000→st.length≤200→StI i st→cur.ok→cur.len≤i→cur.deep (201-st.length)=true →
   AA l st cur=.ok fo→fo.ok∧fo.len≤i+l.length∧fo.deep 201=true
 | [],i,[],cur,fo,_,_,_,_,F,O,d,h=>by
   simp only[AA] at h
   cases h
   exact⟨F,by simpa using O,by simpa using d⟩
 | [],i,(o,p)::s,cur,fo,_,_,_,_,_,_,_,h=>by
   unfold AA at h
   split at h <;> cases h
 |k::l,i,st,cur,fo,Q,Z,U,K,F,O,d,h=>by
   have Y:k.ok:=Q k (.head _);have D:∀t∈l,t.ok:=λt ht=>Q t (.tail _ ht);simp only[List.length_cons] at Z;unfold AA at h
   split at h
   · split at h
     · cases h
     · rename_i G
       have hne:st.length≠200:=by simpa using G
       have:=Hz l (i+1) ((k,cur)::st) .nil fo D oM (by simp only[List.length_cons];omega) ⟨Y,F,oM,d,K.up⟩ tQ (by simp[Fo.len]) (by simp[Fo.deep]) h;refine⟨this.1,?_,this.2.2⟩;have:=this.2.1;simp only[List.length_cons];omega
   · split at h
     · cases st with
       |nil=>cases h
       |cons op s =>
         obtain⟨o,p⟩:=op;simp only at h;obtain⟨ho,hp,hpl,J,L⟩:=K;simp only[List.length_cons] at U d;have e:201-s.length=(201-(s.length+1))+1:=oM;have:=Hz l (i+1) s (p.snoc o cur) fo D oM oM L.up (Fo.ok_snoc p o cur hp ho F oM) (by rw[Fo.len_snoc'];omega) (by rw[e] at J ⊢;exact Fo.deep_snoc p _ o cur J d) h;refine⟨this.1,?_,this.2.2⟩;have:=this.2.1;simp only[List.length_cons];omega
     · have e:201-st.length=(201-(st.length+1))+1:=oM
       have:=Hz l (i+1) st (cur.snoc k .nil) fo D oM U K.up (Fo.ok_snoc cur k .nil F Y tQ (by simp[Fo.len])) (by rw[Fo.len_snoc'];omega)
         (by rw[e] at d ⊢;exact Fo.deep_snoc cur _ k .nil d (by simp[Fo.deep])) h
       refine⟨this.1,?_,this.2.2⟩;have:=this.2.1;simp only[List.length_cons];omega
variable {fo:Fo}{toks:List AB}
theorem VY(d:∀t∈toks,t.ok)(G:toks.length≤100000)(h:AA toks [] .nil=.ok fo):fo.all (GR 200)∧fo.len≤100000:=by
 obtain⟨D,J,F⟩:=Hz toks 0 [] .nil fo d oM (by simp) tQ tQ (by simp[Fo.len]) (by rfl) h;exact⟨NA 200 fo D F,oM⟩
end Go.SP
namespace Go.SP
open Go.SW Go.RowKit
variable {nm:Int}{ot toks:List AB}{F:Nat}{p p1:Ps}{src:lU}
theorem PD:∀(n:Nat)(p:Ps)(l:lU)(toks:List AB),DZ F n p l=.ok toks→toks.length≤n
 |n,p,[],toks,h=>by rw[Iu] at h;cases h;exact Nat.zero_le _
 |0,p,c::l,toks,h=>by cases h
 |n+1,p,c::l,toks,h=>by
   rw[EJ] at h
   split at h
   · cases h
   · rename_i t r' d D
     split at h
     · cases h
     · rename_i G J
       cases h
       have:=PD n d r' G J;have:=Qz D;rw[List.length_append];omega
theorem Oc{start:Ps}:∀(n:Nat)(p:Ps)(acc l tx r:lU)(d:Ps),F3 start n p acc l=.ok (tx,r,d)→tx.length≤4096
 |0,_,_,_,_,_,_,h=>by cases h
 |n+1,p,acc,[],tx,r,d,h=>by cases h
 |n+1,p,acc,c::l,tx,r,d,h=>by
   rw[D3] at h
   split at h
   · split at h
     · cases h
     · rename_i hd
       cases h
       simp at hd;omega
   · split at h
     · cases h
     · split at h
       · exact Oc n _ _ _ tx r d h
       · split at h
         · cases h
         · split at h
           · cases h
           · exact Oc n _ _ _ tx r d h
theorem eI{w:lU}{k:Int}{tx:lU}(d:w≠[])(h:Hw w=some (k,nm,tx)):(k=5→tx≠[])∧tx.length≤100000∧k≠0∧k≠1:=by
 unfold Hw at h
 split at h
 · cases h;simp
 · split at h
   · cases h;simp[Ot,Ql]
   · split at h
     · cases h
     · rename_i D
       simp only[Bool.or_eq_true,not_or,decide_eq_true_eq] at D
       split at h
       · cases h;exact⟨by simp,oM,dC,dC⟩
       · split at h
         · cases h;exact⟨λ_=>d,oM,dC,dC⟩
         · cases h
theorem bJ{l r:lU}(h:CH F p l=.ok (ot,r,p1)):∀t∈ot,t.ok:=by
 cases l with
 |nil=>cases h
 |cons c r =>
   rw[CA] at h
   split at h
   · cases h;simp
   · split at h
     · simp only[Except.ok.injEq,Prod.mk.injEq] at h;rw[← h.1];simp
     · split at h
       · cases h;simp[AB.ok]
       · split at h
         · cases h;simp[AB.ok]
         · split at h
           · split at h
             · cases h
             · rename_i tx r' D d
               cases h
               have:=Oc _ _ _ _ _ _ _ d;simp only[List.mem_singleton,forall_eq,AB.ok];exact⟨by simp,oM⟩
           · split at h
             · cases h
             · rename_i k nm tx hw
               simp only[Except.ok.injEq,Prod.mk.injEq] at h;rw[← h.1];simp only[List.mem_singleton,forall_eq,AB.ok];have:=eI (by simp) hw;exact⟨this.1,this.2.1⟩
theorem TP:∀(n:Nat)(p:Ps)(l:lU)(toks:List AB),DZ F n p l=.ok toks→∀t∈toks,t.ok
 |n,p,[],toks,h=>by rw[Iu] at h;cases h;simp
 |0,p,c::l,toks,h=>by cases h
 |n+1,p,c::l,toks,h=>by
   rw[EJ] at h
   split at h
   · cases h
   · rename_i t r' D G
     split at h
     · cases h
     · rename_i J K
       cases h
       intro t d;rcases List.mem_append.1 d with d|d
       · exact bJ G t d
       · exact TP n D r' J K t d
theorem XJ(h:Jj src=.ok toks):toks.length≤100000∧∀t∈toks,t.ok:=by
 unfold Jj at h
 split at h
 · cases h
 · rename_i D
   simp only[decide_eq_true_eq] at D
   split at h
   · cases h
   · rename_i l d
     cases h
     exact⟨by have:=PD _ _ _ _ d;omega,TP _ _ _ _ d⟩
theorem dM{e:Int×Int×Int}(h:Jj src=.error e):(e.2.2 != 0)=true:=by
 unfold Jj at h
 split at h
 · cases h;rfl
 · split at h <;> cases h
   rfl
end Go.SP
namespace Go.Proofs.YtelmolopaolbcaaGreatDoor
open Go.SW Go.SP Go.RowKit Go.Proofs.Tryz
def CE(src:lU):Nd×Int×Int×Int:=HS 200 (Jj src)
abbrev parV(p:Nd×Int×Int×Int)(a:oA)(c:Nat):Value:=.tuple #[.slice a p.1.len c,.agg #[.int .i64 p.2.1,.int .i64 p.2.2.1],.int .i64 p.2.2.2]
variable {f:Fq}{w w':wO}
theorem Td.out{p:Nd×Int×Int×Int}{v:Value}(h:Td p w f v w'):B3 (α:=oA×Nat) (λx=>parV p x.1 x.2) (λ_=>True) (λx=>[λw f=>AH w f p.1 x.1 x.2]) w f v w' :=
 let ⟨f',a,c,d,D,F⟩:=h
 ⟨(a,c),f',D,tQ,d,F,tQ⟩
theorem gD(w:wO)(f:Fq)(K:Vl w f)(L:Dy w f)(src:lU) :
   Bq prog 11 #[S src] w (B3 (α:=oA×Nat) (λx=>parV (CE src) x.1 x.2) (λ_=>True) (λx=>[λw f=>AH w f (CE src).1 x.1 x.2]) w f):=by
 refine Bq.mono (R:=Td (CE src) w f) ?_ λ_ _ h=>Td.out h;unfold CE
 cases F:Jj src with
 |error e =>
   exact Zc w f K L 199 src e (dM F) λG d=>by
     have:=Qw pfs G d src;rw[F] at this;exact this
 |ok D =>
   obtain⟨O,Q⟩:=XJ F
   exact eL w f K L 199 src D O (λU J=>VY Q O J) λG d=>by
     have:=Qw pfs G d src;rw[F] at this;exact this
theorem DV(w:wO)(f:Fq)(h:Vl w f)(n:Int) :
  Bq prog 56 #[iV n] w (B3 (α:=Unit) (λ_=>tV (.var n) none 0) (λ_=>True) (λ_=>[]) w f):=by
 exact Cw (X:=X0 w f) (H:=[]) (R:=[]) (B:=[]) (Fs:=[]) (f:=f) func56 C C C (Ci h tQ tQ)<|Aa 13 [0] (λb1=>y<|λ_=>AR (λw f d=>AE C (Ac C AW d.k0 C)) (λw f d=>⟨(),f,C,tQ,d.exm,tQ⟩))
theorem MG(w:wO)(f:Fq)(Q:Vl w f)(l:List Int)(a:oA)(c:Nat)(n:Int)(hl:l.length≤1000000)(U:B9 w f l a c) :
  Bq prog 84 #[.slice a l.length c,iV n] w (B3 (α:=Unit) (λ_=>iV (Z5 l n)) (λ_=>True) (λ_=>[]) w f):=by
 refine Cw (X:=X0 w f) (H:=[]) (R:=[]) (B:=[]) (Fs:=[λw f=>B9 w f l a c]) (f:=f) func84 C C C (Ci Q ⟨U,tQ⟩ ⟨B9.mono,tQ⟩)<|Aa 14 [] (λ_=>?_);refine FG (α:=Nat) (λi=>l.length-i) (λi=>i≤l.length∧(l.take i).contains n=false) (λi=>(E4 0 (.slice a l.length c) 1 (iV n) 7 (iV (l.length:Int)) 8 (iV (i:Int)))) (λi=>X0 w f) (λi=>[]) (λi=>[]) (λi=>[]) (λi=>[λw f=>B9 w f l a c]) (0) ⟨oM,C⟩ lE (λw f D=>D) ?_;rintro i ⟨hi,d⟩;refine Aa 6 [] (λ_=>AN 9 C C (λG=>?_) (λG=>?_));refine Aa 12 [] (λ_=>?_);have J:i<l.length:=by have:=dT G;omega
 obtain⟨v0,K⟩:∃v,l[i]?=some v:=⟨_,List.getElem?_eq_getElem J⟩;refine rI 0 C K ?_;rintro⟨b,off⟩ rfl;refine Aa 9 [100,0] (aI oM<|y2<|λ_=>AN 16 C C (λL=>?_) (λL=>?_));exact Aa 10 [] (λ_=>Z0<|Aa 2 [] (λ_=>AR (CY C C) (λw f D=>⟨(),f,(by rw[Z5,Xe d (by rw[K,show v0=n from (beq_iff_eq.1 L).symm])]),tQ,D.exm,tQ⟩)));refine Aa 8 [] (aI ⟨oM,oM⟩<|λ_=>?_);have F:(l.take (i+1)).contains n=false:=by rw[CC K];have Y:¬n=v0:=(by simpa using L);have Z:n∉l.take i:=(by simpa using d);simp[Z,Y]
 exact Df (i+1) (show l.length-(i+1)<l.length-i by omega) ⟨oM,F⟩ lE (λw f D=>⟨_,D.less sR sR nE (λ_ h=>h)⟩);refine Aa 3 [] (λ_=>Fh<|Aa 8 [] (λ_=>?_));have O:l.length≤i:=by have:=dF G;omega
 rw[List.take_of_length_le O] at d;exact AR (CY C C) (λw f D=>⟨(),f,(by rw[Z5,Oe d]),tQ,D.exm,tQ⟩)
theorem aQ(m:Nat)(Z:OwnF prog 85 m)(w:wO)(f:Fq)(hv:Vl w f)(t:T1)(a:oA)(c:Nat)(hm:t.kids.size<m+1)(D:t.bnd)(hT:Ak w f t.kids a c) :
  Bq prog 85 #[tV t a c] w (B3 (α:=oA×Nat) (λx=>tV t x.1 x.2) (λ_=>True) (λx=>[λw f=>Ak w f t.kids x.1 x.2]) w f):=by
 have hbl:=D.1;refine Cw (X:=X0 w f) (H:=[]) (R:=[]) (B:=[]) (Fs:=[λw f=>Ak w f t.kids a c]) (f:=f) func85 C C C (Ci hv ⟨hT,tQ⟩ ⟨Ak.mono,tQ⟩)<|Aa 15 [1] (λb1=>λb2=>y<|λ_=>AN 9 C C (λQ=>?_) (λQ=>?_));refine Aa 15 [1,1,0] (y<|y<|y<|λ_=>?_);have U:t.kids.len=0:=by have:=beq_iff_eq.1 Q;omega
 exact AR (λw f d=>AE C (Ac C AW d.k0 C)) (λw f d=>⟨(none,0),f,(by show Value.agg _=Value.agg _;rw[U]),tQ,d.exm,⟨by rw[Ty.len0 U];exact Ak.nil _ _ _ _,tQ⟩⟩);refine Aa 8 [1] (y<|λ_=>mmk C C Dl C C C C (by have:=D.1;omega) (by have:=D.1;unfold maxLen;omega) λF=>Aa 13 [1] (y<|λ_=>?_));refine FG (α:=Nat×Ty×Ty×lV) (λx=>x.2.1.len) (λx=>x.1+x.2.1.len=t.kids.len∧x.2.2.1.len=x.1∧t.kids=x.2.2.1.app x.2.1∧x.2.1.bnd∧x.2.1.size≤t.kids.size) (λx=>(E6 1 (pB b1) 2 (pB b2) 3 (.slice (some ⟨F,0,none⟩) t.kids.len t.kids.len) 17 (.slice a t.kids.len c) 18 (iV (t.kids.len:Int)) 19 (iV (x.1:Int)))) (λx=>X0 w f) (λx=>[⟨b2,zT,76,true⟩,⟨b1,[iV t.op,iV t.num,S t.tx,.slice a t.kids.len c],76,true⟩]) (λx=>[⟨76,4,some ⟨F,0,none⟩,t.kids.len,t.kids.len,x.2.2.2++Gv x.2.1.len zT⟩]) (λx=>[]) (λx=>[λw f=>BN w f a x.1 x.2.1,λw f=>Bi w f x.2.2.1 x.2.2.2]) (0,t.kids,.nil,[]) ⟨by simp,C,C,D.2,Nat.le_refl _⟩ lE (λw f d=>d.more (B':=[]) (F':=[λw f=>BN w f a 0 t.kids,λw f=>Bi w f .nil []]) nE (AI.mem ⟨Ak.at d.f0,C,tQ⟩) (Aw.mem ⟨BN.mono,Bi.mono,tQ⟩) |>.less sR sR (λ_ h=>h) (mR [0,1])) ?_;rintro⟨i,r,dn,xs⟩ ⟨Y,G,K,L,hs⟩;dsimp only at Y G K L hs ⊢;refine Aa 6 [] (λ_=>AN 20 C C (λO=>?_) (λO=>?_));refine Aa 6 [] (λ_=>?_);have hil:i<t.kids.len:=by have:=dT O;omega
 obtain⟨t2,r,rfl⟩:=Ty.cases1 r oM;rw[T1.len_cons] at Y;refine Z8 0 C ?_;rintro⟨eb,eo,ka,kc⟩ rfl;refine Aa 13 [100,0,0,0] (aI oM<|y2<|λb3=>y<|y<|λ_=>Bt C C (eC Rn C C) (λw f d=>Z w f d.vl t2 ka kc (by have:=T1.size_cons t2 r;omega) (T1.bnd_cons.1 L).1 d.f0) (λx=>⟨Ak.mono,tQ⟩) ?_);rintro⟨a2,c2⟩ -;refine Aa 1 [] (aI oM<|λ_=>Jf (λw f d=>Bi.len d.f4) λJ=>?_);rw[G] at J;exact mrs 0 ((xs++tC t2 a2 c2)++Gv r.len zT) C C C C AW C C C (by simp only[Nat.zero_add,List.length_cons,List.length_nil,Int.toNat_natCast];omega) (by rw[Nat.zero_add,Int.toNat_natCast,← J,T1.len_cons,Gv];exact SN _ _ _ _ C) C<|Aa 7 [] (aI ⟨oM,oM⟩<|λ_=>Df ((i+1,r,dn.snoc t2,xs++tC t2 a2 c2)) (show r.len<(t2.cons r).len by rw[T1.len_cons];omega) ⟨show i+1+r.len=t.kids.len by omega,show (dn.snoc t2).len=i+1 by rw[Ty.len_snoc,G],show t.kids=(dn.snoc t2).app r by rw[K,Ty.snoc_app],(T1.bnd_cons.1 L).2,show r.size≤t.kids.size by have:=T1.size_cons t2 r;omega⟩ lE (λw f d=>⟨_,(d.more (B':=[]) (F':=[λw f=>Bi w f (dn.snoc t2) (xs++tC t2 a2 c2)]) nE (AI.mem ⟨Bi.snoc d.f0 d.f4,tQ⟩) (Aw.mem ⟨Bi.mono,tQ⟩)).less (List.sublist_cons_self _ _) sR nE (mR [3,0])⟩));refine Aa 3 [] (λ_=>Fh<|Aa 3 [] (λ_=>?_));obtain rfl:r=.nil:=Ty.len0 (by have:=dF O;omega);rw[Ty.app_nil] at K;exact pW 0 C C<|Aa 13 [1,1,0] (y<|y<|y<|λ_=>AR (λw f d=>AE C (Ac C AW d.k0 C)) (λw f d=>⟨(some ⟨F,0,none⟩,t.kids.len),f,C,tQ,d.exm,⟨K▸Bi.toF d.f1 (by have:=d.b0;simpa[Gv,Ty.len] using this) (Nat.le_refl _),tQ⟩⟩))
end Go.Proofs.YtelmolopaolbcaaGreatDoor
namespace Go.SP
def Nd.bnd:Nd→Prop
 |.nil=>True
 |.cons _ _ _ _ _ kids rest=>kids.len≤200000∧kids.bnd∧rest.bnd
def N.bnd(a:N):Prop:=a.kids.len≤200000∧a.kids.bnd
variable {r:Nd}
theorem N.bnd_cons{a:N}(h:a.bnd)(d:r.bnd):(a.cons r).bnd:=⟨h.1,h.2,d⟩
theorem Nd.bnd_app:∀{x y:Nd},x.bnd→y.bnd→(x.app y).bnd
 |.nil,_,_,h=>h
 |.cons _ _ _ _ _ _ _,_,h,d=>⟨h.1,h.2.1,Nd.bnd_app h.2.2 d⟩
def AB.er(t:AB):AB:=⟨t.k,0,0,t.nm,t.tx⟩
def Fo.er:Fo→Fo
 |.nil=>.nil
 |.cons t k r=>.cons t.er k.er r.er
def Nd.er:Nd→Nd
 |.nil=>.nil
 |.cons op _ _ tx nm kids r=>.cons op 0 0 tx nm kids.er r.er
def N.er(a:N):N:=⟨a.op,0,0,a.tx,a.nm,a.kids.er⟩
def FC{α β:Type}(f:α→β):R α→R β
 |.error _=>.error (0,0)
 |.ok x=>.ok (f x)
theorem Fo.er_len:∀k:Fo,k.er.len=k.len
 |.nil=>rfl
 |.cons _ _ r=>by simp only[Fo.er,Fo.len,Fo.er_len r]
theorem N.er_one(a:N):a.one.er=a.er.one:=rfl
theorem Nd.er_app:∀x y:Nd,(x.app y).er=x.er.app y.er
 |.nil,_=>rfl
 |.cons _ _ _ _ _ _ r,y=>by simp only[Nd.app,Nd.er,Nd.er_app r y]
theorem X7(t:AB)(op:Int)(tx:lU)(d:Nd):(Ay t op tx d).er=Ay t.er op tx d.er:=rfl
theorem BY{α:Type}{β:Type}(f:α→β)(t:AB)(b:Bool)(x:R α)(y:R β)(h:b=true→y=FC f x):need t.er b y=FC f (need t b x):=by
 unfold need
 cases b with
 |true=>simp only[if_true];exact h C
 |false=>rfl
theorem S0{f g:AB→Fo→R N}:∀(k:Fo),k.all (λt l=>f t.er l.er=FC N.er (g t l))→A9 f k.er=FC Nd.er (A9 g k)
 |.nil,_=>rfl
 |.cons t l r,h=>by
   simp only[Fo.er,A9];rw[h.1,S0 r h.2]
   cases g t l with
   |error e=>rfl
   |ok a =>
     cases A9 g r with
     |error e=>rfl
     |ok b=>rfl
theorem XG{p:AB→Fo→Prop}(h:∀t l,p t l):∀k:Fo,k.all p
 |.nil=>trivial
 |.cons t l r=>⟨h t l,XG h r⟩
theorem Us(t:AB)(k:Fo):H3 t.er k.er=FC N.er (H3 t k):=by
 unfold H3;show Except.ok _=Except.ok _;have e:t.er.isWord [95]=t.isWord [95]:=rfl;rw[e]
 split <;> rfl
theorem Tc:∀k:Fo,Ky k.er=Ky k
 |.nil=>rfl
 |.cons t _ r=>by simp only[Fo.er,Ky,Tc r];rfl
theorem Nw:∀(x:Nd)(s:List lU),BD s x.er=BD s x
 |.nil,_=>rfl
 |.cons op _ _ tx _ kids rest,s=>by
   simp only[Nd.er,BD]
   split
   · rfl
   · rename_i s1 _
     rw[Nw kids s1]
     split
     · rfl
     · rename_i s2 _
       exact Nw rest s2
theorem CG{α β:Type}{f:α→β}{c:Bool}{a b:R β}{a' d:R α}(h:a=FC f a')(D:b=FC f d):(if c then a else b)=FC f (if c then a' else d):=by
 cases c with
 |true=>exact h
 |false=>exact D
theorem GK{f:AB→Fo→R N}(h:∀t k,f t.er k.er=FC N.er (f t k))(l:Fo):A9 f l.er=FC Nd.er (A9 f l):=S0 l (XG h l)
theorem WS:∀(n:Nat)(t:AB)(k:Fo),D9 n t.er k.er=FC N.er (D9 n t k)
 |0,_,_=>rfl
 |n+1,t,k=>by
   have d:=GK (WS n);unfold D9;refine CG C (CG C (CG C (CG (BY N.er t _ _ _ λ_=>Us t k) (CG C ?_))))
   cases k with
   |nil=>rfl
   |cons h D l =>
     refine CG ?_ ?_
     · rw[Fo.er_len];exact BY N.er t _ _ _ λ_=>by rw[d l];cases A9 (D9 n) l <;> rfl
     · rw[Fo.er_len];exact BY N.er t _ _ _ λ_=>by rw[d l];cases A9 (D9 n) l <;> rfl
theorem Q4(t:AB):∀x:Nd,CP t.er x.er=(CP t x).map N.er
 |.nil=>rfl
 |.cons op ln co tx nm kids .nil=>rfl
 |.cons op ln co tx nm kids (.cons a b c d e f r)=>by
   have h:=Q4 t (.cons a b c d e f r)
   have u:∀(t:AB)(op ln co:Int)(tx:lU)(nm:Int)(kids:Nd)(a b c:Int)(d:lU)(e:Int)(f r:Nd),CP t (.cons op ln co tx nm kids (.cons a b c d e f r))=(CP t (.cons a b c d e f r)).map λo=>Ay t 32 [45,62] (.cons op ln co tx nm kids o.one):=by
     intro t op ln co tx nm kids a b c d e f r
     conv=>lhs;unfold CP
     cases CP t (.cons a b c d e f r) <;> rfl
   show CP t.er (.cons op 0 0 tx nm kids.er (Nd.cons a b c d e f r).er)=_;show CP t.er (.cons op 0 0 tx nm kids.er (.cons a 0 0 d e f.er r.er))=_;rw[u,u,show CP t.er (.cons a 0 0 d e f.er r.er)=_ from h]
   cases CP t (.cons a b c d e f r) <;> rfl
theorem QR:∀(n:Nat)(t:AB)(k:Fo),BV n t.er k.er=FC N.er (BV n t k)
 |0,_,_=>rfl
 |n+1,t,k=>by
   have d:=GK (QR n);unfold BV;refine CG ?_ (CG C (BY N.er t _ _ _ λ_=>C))
   cases k with
   |nil=>rfl
   |cons h D l =>
     refine CG ?_ ?_
     · rw[Fo.er_len]
       refine BY N.er t _ _ _ λ_=>?_;rw[d l]
       cases A9 (BV n) l with
       |error e=>rfl
       |ok a =>
         simp only[FC];rw[Q4]
         cases CP t a <;> rfl
     · rw[Fo.er_len];exact BY N.er t _ _ _ λ_=>by rw[d l];cases A9 (BV n) l <;> rfl
theorem oI(n:Nat)(ex:AB→Fo→R N)(hex:∀t k,ex t.er k.er=FC N.er (ex t k))(t:AB)(k:Fo):Gp n ex t.er k.er=FC N.er (Gp n ex t k):=by
 unfold Gp
 cases k with
 |nil=>rfl
 |cons p d r =>
   cases r with
   |nil=>rfl
   |cons b bk r =>
     cases r with
     |cons _ _ _=>rfl
     |nil =>
       refine BY N.er t _ _ _ λ_=>?_;rw[WS n p d]
       cases D9 n p d with
       |error e=>rfl
       |ok q =>
         simp only[FC];rw[← N.er_one,Nw];exact BY N.er p _ _ _ λ_=>by rw[hex b bk];cases ex b bk <;> rfl
theorem XH(t:AB)(k:Fo):Ry t.er k.er=Ry t k:=by cases k <;> rfl
theorem fH(n:Nat)(ex:AB→Fo→R N)(hex:∀t k,ex t.er k.er=FC N.er (ex t k))(t:AB)(w:lU)(l:Fo):Bh n ex t.er w l.er=FC N.er (Bh n ex t w l):=by
 have D:=GK hex;have F:=GK (oI n ex hex);unfold Bh;refine CG ?_ (CG ?_ (CG ?_ (CG ?_ (CG ?_ (CG ?_ (CG ?_ (CG ?_ C)))))))
 · rcases l with _|⟨p,G,_|⟨b,bk,_|⟨_,_,_⟩⟩⟩
   · rfl
   · rfl
   · simp only[Fo.er]
     rw[Fo.er_len,Tc];refine BY N.er t _ _ _ λ_=>?_;rw[GK Us G]
     cases A9 H3 G with
     |error e=>rfl
     |ok K =>
       simp only[FC];rw[hex b bk]
       cases ex b bk with
       |error e=>rfl
       |ok x =>
         show Except.ok _=Except.ok _;rw[X7,Nd.er_app];rfl
   · rfl
 · rcases l with _|⟨v,J,_|⟨e,d,_|⟨b,bk,_|⟨_,_,_⟩⟩⟩⟩
   · rfl
   · rfl
   · rfl
   · exact BY N.er t _ _ _ λ_=>by
       rw[hex e d]
       cases ex e d with
       |error _=>rfl
       |ok x=>simp only[FC];rw[hex b bk];cases ex b bk <;> rfl
   · rfl
 · rcases l with _|⟨v,J,_|⟨e,d,_|⟨b,bk,_|⟨_,_,_⟩⟩⟩⟩
   · rfl
   · rfl
   · rfl
   · simp only[Fo.er]
     rw[XH]
     exact BY N.er t _ _ _ λ_=>by
       rw[hex e d]
       cases ex e d with
       |error _=>rfl
       |ok x=>simp only[FC];rw[hex b bk];cases ex b bk <;> rfl
   · rfl
 · rw[Fo.er_len];exact BY N.er t _ _ _ λ_=>by rw[D l];cases A9 ex l <;> rfl
 · rw[Fo.er_len];exact BY N.er t _ _ _ λ_=>by rw[D l];cases A9 ex l <;> rfl
 · rw[Fo.er_len];exact BY N.er t _ _ _ λ_=>by rw[D l];cases A9 ex l <;> rfl
 · rw[Fo.er_len]
   refine BY N.er t _ _ _ λ_=>?_
   cases l with
   |nil=>rfl
   |cons e d h =>
     simp only[Fo.er];rw[hex e d]
     cases ex e d with
     |error _=>rfl
     |ok x=>simp only[FC];rw[F h];cases A9 (Gp n ex) h <;> rfl
 · rcases l with _|⟨e,d,_|⟨_,_,_⟩⟩
   · rfl
   · simp only[Fo.er];rw[hex e d];cases ex e d <;> rfl
   · rfl
theorem Ko:∀(n:Nat)(t:AB)(k:Fo),BG n t.er k.er=FC N.er (BG n t k)
 |0,_,_=>rfl
 |n+1,t,k=>by
   have d:=GK (Ko n);unfold BG;refine CG C (CG C (CG C (CG C (CG (BY N.er t _ _ _ λ_=>C) ?_))))
   cases k with
   |nil=>rfl
   |cons h D l =>
     refine CG ?_ (CG (fH n _ (Ko n) t h.tx l) ?_)
     · rw[Fo.er_len];exact BY N.er t _ _ _ λ_=>by rw[d l];cases A9 (BG n) l <;> rfl
     · rw[Fo.er_len];exact BY N.er t _ _ _ λ_=>by rw[d (.cons h D l)];cases A9 (BG n) (.cons h D l) <;> rfl
theorem iJ(n:Nat)(t:AB)(k:Fo):Eo n t.er k.er=FC N.er (Eo n t k):=by
 unfold Eo
 cases k with
 |nil=>rfl
 |cons h d l =>
   have e:decide (((Fo.cons h d l).er.len:Int)≤9)=decide (((Fo.cons h d l).len:Int)≤9):=by simp only[Fo.er_len]
   show need t.er (t.k==0&&(h.k==6&&decide (((Fo.cons h d l).er.len:Int)≤9))) _=_;rw[e];exact BY N.er t _ _ _ λ_=>by rw[GK (QR n) l];cases A9 (BV n) l <;> rfl
theorem PU:∀k:Fo,Bk k.er=(Bk k).map Nd.er
 |.nil=>rfl
 |.cons v _ r=>by
   simp only[Fo.er,Bk,PU r];rw[show v.er.isTypeVar=v.isTypeVar from C]
   split
   · cases Bk r <;> rfl
   · rfl
theorem mM(n:Nat)(t:AB)(k:Fo):Co n t.er k.er=FC N.er (Co n t k):=by
 unfold Co
 cases k with
 |nil=>rfl
 |cons h F l =>
   refine BY N.er t _ _ _ λ_=>CG ?_ (CG ?_ (CG ?_ (CG ?_ (CG ?_ C))))
   · rcases l with _|⟨a,D,_|⟨b,bk,_|⟨c,d,r⟩⟩⟩
     · rfl
     · rfl
     · rfl
     · simp only[Fo.er]
       rw[Fo.er_len,PU];refine BY N.er t _ _ _ λ_=>?_
       cases Bk bk with
       |none=>rfl
       |some vs =>
         simp only[Option.map_some];rw[show A9 (Eo n) (Fo.cons c.er d.er r.er)=_ from GK (iJ n) (.cons c d r)]
         cases A9 (Eo n) (.cons c d r) with
         |error e=>rfl
         |ok cs =>
           show Except.ok _=Except.ok _;rw[X7,Nd.er_app];rfl
   · rcases l with _|⟨a,D,_|⟨b,bk,_|⟨c,d,_|⟨_,_,_⟩⟩⟩⟩
     · rfl
     · rfl
     · rfl
     · exact BY N.er t _ _ _ λ_=>by
         rw[QR n b bk]
         cases BV n b bk with
         |error _=>rfl
         |ok x=>simp only[FC];rw[Ko n c d];cases BG n c d <;> rfl
     · rfl
   · rcases l with _|⟨a,D,_|⟨b,bk,_|⟨_,_,_⟩⟩⟩
     · rfl
     · rfl
     · exact BY N.er t _ _ _ λ_=>by rw[Ko n b bk];cases BG n b bk <;> rfl
     · rfl
   · rcases l with _|⟨a,D,_|⟨b,bk,_|⟨_,_,_⟩⟩⟩
     · rfl
     · rfl
     · simp only[Fo.er]
       rw[XH];exact BY N.er t _ _ _ λ_=>by rw[Ko n b bk];cases BG n b bk <;> rfl
     · rfl
   · rcases l with _|⟨b,bk,_|⟨_,_,_⟩⟩
     · rfl
     · simp only[Fo.er];rw[Ko n b bk];cases BG n b bk <;> rfl
     · rfl
theorem Fo.er_snoc:∀(a:Fo)(t:AB)(k:Fo),(a.snoc t k).er=a.er.snoc t.er k.er
 |.nil,_,_=>rfl
 |.cons _ _ r,t,k=>by simp only[Fo.snoc,Fo.er,Fo.er_snoc r t k]
def erS(st:List (AB×Fo)):List (AB×Fo):=st.map λx=>(x.1.er,x.2.er)
theorem JW:∀(l:List AB)(st:List (AB×Fo))(cur:Fo),AA (l.map AB.er) (erS st) cur.er=FC Fo.er (AA l st cur)
 | [],[],cur=>rfl
 | [],(o,p)::s,cur=>by
   have d:∃e,AA [] ((o,p)::s) cur=.error e:=by unfold AA;split <;> exact⟨_,C⟩
   obtain⟨e,he⟩:=d;rw[he];simp only[List.map_nil,erS,List.map_cons,AA]
   split
   · rename_i q f D
     have:q.ln=0∧q.co=0:=by
       have hm:=List.mem_of_getLast? D;rcases List.mem_cons.1 hm with h|h
       · cases h;exact⟨C,C⟩
       · obtain⟨x,_,F⟩:=List.mem_map.1 h
         cases F;exact⟨C,C⟩
     rw[this.1,this.2];rfl
   · rfl
 |k::l,st,cur=>by
   simp only[List.map_cons,AA];refine CG ?_ (CG ?_ ?_)
   · rw[show (erS st).length=st.length from List.length_map _]
     exact CG C (JW l ((k,cur)::st) .nil)
   · cases st with
     |nil=>rfl
     |cons op s =>
       obtain⟨o,p⟩:=op;have:=JW l s (p.snoc o cur);rw[Fo.er_snoc] at this;exact this
   · have:=JW l st (cur.snoc k .nil)
     rw[Fo.er_snoc] at this;exact this
def Ox(n:Nat)(l:List AB):R Nd:=match AA l [] .nil with
 |.error e=>.error e
 |.ok d=>A9 (Co n) d
theorem eR(n:Nat)(l:List AB):Ox n (l.map AB.er)=FC Nd.er (Ox n l):=by
 unfold Ox;rw[show AA (l.map AB.er) [] .nil=_ from JW l [] .nil]
 cases AA l [] .nil with
 |error e=>rfl
 |ok d=>exact GK (mM n) d
theorem Fo.app_nil:∀a:Fo,a.app .nil=a
 |.nil=>rfl
 |.cons _ _ r=>by simp only[Fo.app,Fo.app_nil r]
end Go.SP
namespace Go.SP
open Go.SW Go.RowKit
def eE(x:Except Ps (UInt8×lU×Ps)):Option (UInt8×lU):=match x with
 |.error _=>none
 |.ok (b,r,_)=>some (b,r)
def xQ(x:Except Ps (lU×lU×Ps)):Option (lU×lU):=match x with
 |.error _=>none
 |.ok (b,r,_)=>some (b,r)
def Li(x:Except Ps (List AB×lU×Ps)):Option (List AB×lU):=match x with
 |.error _=>none
 |.ok (t,r,_)=>some (t.map AB.er,r)
def OW(x:Except Ps (List AB)):Option (List AB):=match x with
 |.error _=>none
 |.ok l=>some (l.map AB.er)
theorem xN(p d:Ps)(l:lU):eE (Hv p l)=eE (Hv d l):=by
 cases l with
 |nil=>rfl
 |cons c r =>
   simp only[Hv]
   split
   · rfl
   · split
     · rfl
     · split
       · rfl
       · split
         · rcases r with _|⟨a,_|⟨b,r⟩⟩
           · rfl
           · rfl
           · simp only[]
             split <;> rfl
         · rfl
variable {F n:Nat}{p:Ps}
theorem NZ{l r:lU}{b:UInt8}{q:Ps}(h:Hv p l=.ok (b,r,q)):r.length<l.length:=by
 cases l with
 |nil=>cases h
 |cons c l =>
   simp only[Hv] at h
   repeat' split at h
   all_goals first
     |(cases h;done)
     |(cases h;simp;done)
     |(cases h;simp;omega)
theorem VC:∀(F:Nat)(l:lU)(F':Nat)(s s' p D:Ps)(acc:lU),l.length<F→l.length<F'→xQ (F3 s F p acc l)=xQ (F3 s' F' D acc l)
 |0,l,F',s,s',p,D,acc,h,G=>by cases h
 |F+1,[],F',s,s',p,D,acc,h,G=>by
   cases F' with
   |zero=>cases G
   |succ F'=>rfl
 |F+1,c::r,F',s,s',p,D,acc,h,G=>by
     cases F' with
     |zero=>cases G
     |succ F' =>
       simp only[List.length_cons] at h G;rw[D3,D3]
       split
       · split <;> rfl
       · split
         · rfl
         · split
           · exact VC F r F' s s' _ _ _ oM oM
           · cases r with
             |nil=>rfl
             |cons d r =>
               have he:=xN (adv c p) (adv c D) (d::r)
               cases K:Hv (adv c p) (d::r) with
               |error e =>
                 rw[K] at he
                 cases J:Hv (adv c D) (d::r) with
                 |error L=>simp only[K,J];rfl
                 |ok x=>rw[J] at he;cases he
               |ok x =>
                 obtain⟨b,O,q⟩:=x;rw[K] at he
                 cases J:Hv (adv c D) (d::r) with
                 |error L=>rw[J] at he;cases he
                 |ok y =>
                   obtain⟨Y,Q,Z⟩:=y;rw[J] at he;simp only[eE,Option.some.injEq,Prod.mk.injEq] at he;obtain⟨rfl,rfl⟩:=he;have U:=NZ K;simp only[List.length_cons] at U h G;simp only[K,J];exact VC F O F' s s' _ _ _ oM oM
theorem fQ(p d:Ps):∀l,(Kq p l).1=(Kq d l).1
 | []=>rfl
 |c::r=>by
   simp only[Kq]
   split
   · exact fQ _ _ r
   · rfl
theorem WX:∀(l:lU)(p d:Ps),(CW p l).1=(CW d l).1∧(CW p l).2.1=(CW d l).2.1
 | [],_,_=>⟨C,C⟩
 |c::r,p,d=>by
   simp only[CW]
   split
   · have h:=WX r (adv c p) (adv c d)
     exact⟨by simp only[h.1],h.2⟩
   · exact⟨C,C⟩
theorem WB{F':Nat}(p D:Ps)(l:lU)(h:l.length≤F)(K:l.length≤F'):Li (CH F p l)=Li (CH F' D l):=by
 cases l with
 |nil=>rfl
 |cons c r =>
   simp only[List.length_cons] at h K;rw[CA,CA]
   split
   · rfl
   · split
     · simp only[Li,List.map_nil];rw[fQ (adv c p) (adv c D)]
     · split
       · rfl
       · split
         · rfl
         · split
           · have d:=VC F r F' p D (adv c p) (adv c D) [] oM oM
             cases J:F3 p F (adv c p) [] r with
             |error e =>
               rw[J] at d
               cases G:F3 D F' (adv c D) [] r with
               |error L=>rfl
               |ok x=>rw[G] at d;cases d
             |ok x =>
               obtain⟨tx,U,q⟩:=x;rw[J] at d
               cases G:F3 D F' (adv c D) [] r with
               |error L=>rw[G] at d;cases d
               |ok y =>
                 obtain⟨O,Q,Y⟩:=y;rw[G] at d;simp only[xQ,Option.some.injEq,Prod.mk.injEq] at d;obtain⟨rfl,rfl⟩:=d;rfl
           · have d:=WX r (adv c p) (adv c D)
             rw[← d.1]
             cases Hw (c::(CW (adv c p) r).1) with
             |none=>rfl
             |some x =>
               obtain⟨k,nm,tx⟩:=x;simp only[Li,List.map_cons,List.map_nil];rw[d.2];rfl
theorem O4(p:Ps):∀l,(Kq p l).1.length≤l.length
 | []=>Nat.le_refl _
 |c::r=>by
   simp only[Kq]
   split
   · have:=O4 (adv c p) r;simp only[List.length_cons];omega
   · exact Nat.le_refl _
theorem ML:∀(l:lU)(p:Ps),(CW p l).2.1.length≤l.length
 | [],_=>Nat.le_refl _
 |c::r,p=>by
   simp only[CW]
   split
   · have:=ML r (adv c p);simp only[List.length_cons];omega
   · exact Nat.le_refl _
theorem KE{s:Ps}:∀(F:Nat)(p:Ps)(acc l tx r:lU)(q:Ps),F3 s F p acc l=.ok (tx,r,q)→r.length≤l.length
 |0,_,_,_,_,_,_,h=>by cases h
 |F+1,p,acc,[],tx,r,q,h=>by cases h
 |F+1,p,acc,c::l,tx,r,q,h=>by
   simp only[List.length_cons];rw[D3] at h
   split at h
   · split at h
     · cases h
     · cases h;omega
   · split at h
     · cases h
     · split at h
       · have:=KE F _ _ _ tx r q h;omega
       · split at h
         · cases h
         · split at h
           · cases h
           · rename_i he
             have:=KE F _ _ _ tx r q h;have:=NZ he;omega
theorem MP{q:Ps}{l r:lU}{t:List AB}(h:CH F p l=.ok (t,r,q)):r.length<l.length:=by
 cases l with
 |nil=>cases h
 |cons c l =>
   simp only[List.length_cons];rw[CA] at h
   split at h
   · cases h;omega
   · split at h
     · simp only[Except.ok.injEq,Prod.mk.injEq] at h
       have:=O4 (adv c p) l;rw[h.2] at this;simp only at this;omega
     · split at h
       · cases h;omega
       · split at h
         · cases h;omega
         · split at h
           · split at h
             · cases h
             · rename_i d
               cases h
               have:=KE _ _ _ _ _ _ _ d;omega
           · split at h
             · cases h
             · simp only[Except.ok.injEq,Prod.mk.injEq] at h
               have:=ML l (adv c p);rw[h.2] at this;simp only at this;omega
theorem Xs:∀(n:Nat)(l:lU)(n' F F':Nat)(p G:Ps),l.length≤n→l.length≤n'→l.length≤F→l.length≤F'→OW (DZ F n p l)=OW (DZ F' n' G l)
 |n,[],n',F,F',p,G,_,_,_,_=>by rw[Iu,Iu]
 |0,c::r,_,_,_,_,_,h,_,_,_=>by simp at h
 |n+1,c::r,0,_,_,_,_,_,h,_,_=>by simp at h
 |n+1,c::r,n'+1,F,F',p,G,h1,h2,U,Y=>by
   rw[EJ,EJ];have d:=WB (F:=F) (F':=F') p G (c::r) U Y;simp only[List.length_cons] at h1 h2 U Y
   cases L:CH F p (c::r) with
   |error e =>
     rw[L] at d
     cases J:CH F' G (c::r) with
     |error O=>rfl
     |ok x=>rw[J] at d;cases d
   |ok x =>
     obtain⟨t,K,q⟩:=x;rw[L] at d
     cases J:CH F' G (c::r) with
     |error O=>rw[J] at d;cases d
     |ok y =>
       obtain⟨t',r1',Q⟩:=y;rw[J] at d;simp only[Li,Option.some.injEq,Prod.mk.injEq] at d;obtain⟨ht,rfl⟩:=d;have hl:=MP L;simp only[List.length_cons] at hl;have D:=Xs n K n' F F' q Q oM oM oM oM;simp only[]
       cases Z:DZ F n q K with
       |error e =>
         rw[Z] at D
         cases e4:DZ F' n' Q K with
         |error O=>rfl
         |ok x=>rw[e4] at D;cases D
       |ok x =>
         rw[Z] at D
         cases e4:DZ F' n' Q K with
         |error O=>rw[e4] at D;cases D
         |ok y =>
           rw[e4] at D;simp only[OW,Option.some.injEq] at D ⊢;rw[List.map_append,List.map_append,ht,D]
def Ij(l:lU):Option (List AB):=OW (DZ (l.length+1) l.length (1,1) l)
def xH(l:lU):Option (List AB×lU):=Li (CH l.length (1,1) l)
theorem wK{l:lU}(d:l.length≤n)(h:l.length≤F):OW (DZ F n p l)=Ij l:=Xs _ _ _ _ _ _ _ d (Nat.le_refl _) h oM
theorem rP{l:lU}(h:l.length≤F):Li (CH F p l)=xH l:=WB _ _ _ h (Nat.le_refl _)
theorem kX:Ij []=some []:=rfl
theorem Lj(c:UInt8)(r:lU):Ij (c::r)=(match xH (c::r) with
   |none=>none
   |some (t,r')=>(Ij r').map (t ++ ·)):=by
 unfold Ij;rw[List.length_cons,EJ];have d:=rP (F:=r.length+1+1) (p:=(1,1)) (l:=c::r) (by simp only[List.length_cons];omega)
 cases h:CH (r.length+1+1) (1,1) (c::r) with
 |error e=>rw[h] at d;rw[← d];rfl
 |ok x =>
   obtain⟨t,D,q⟩:=x;rw[h] at d;rw[← d];simp only[Li];have G:=MP h;simp only[List.length_cons] at G;have:=wK (F:=r.length+1+1) (n:=r.length) (p:=q) (l:=D) oM oM;unfold Ij at this;rw[← this]
   cases DZ (r.length+1+1) r.length q D with
   |error e=>rfl
   |ok l=>simp[OW]
def pO(n:Nat)(l:lU):Option Nd:=match Ij l with
 |none=>none
 |some t=>match Ox n t with
   |.error _=>none
   |.ok x=>some x
theorem aD(n:Nat)(src:lU)(G:src.length≤65536) :
   (∀x,pO n src=some x→(HS n (Jj src)).1.er=x∧(HS n (Jj src)).2.2.2=0)∧(pO n src=none→(HS n (Jj src)).2.2.2≠0):=by
 have d:Jj src=(match DZ (src.length+1) src.length (1,1) src with
   |.error e=>.error (e.1,e.2,10)
   |.ok l=>.ok l):=by
   unfold Jj;rw[if_neg (by simp;omega)];rfl
 rw[d];unfold pO Ij
 cases DZ (src.length+1) src.length (1,1) src with
 |error e=>exact⟨λx h=>(by cases h),λ_=>by simp[HS]⟩
 |ok l =>
   simp only[OW];rw[eR];unfold HS Ox;simp only[]
   cases AA l [] .nil with
   |error e=>exact⟨λx h=>(by cases h),λ_=>by simp⟩
   |ok D =>
     simp only[]
     cases A9 (Co n) D with
     |error e=>exact⟨λx h=>(by cases h),λ_=>by simp⟩
     |ok nds=>exact⟨λx h=>by cases h;exact⟨C,C⟩,λh=>by cases h⟩
def pF(U:Nat→Prop)(w:World)(a:Option Addr)(i:Nat)(r:Nd):Prop :=
 r=.nil∨∃b off l T,U b∧a=some ⟨b,off,none⟩∧AM w b l T∧Gg U w r (l.drop (off+i*6))
variable {co ln nm:Int}{i:Nat}{U:Nat→Prop}{a:Option Addr}{w':World}
theorem pF.ext{w:World}{r:Nd}(h:pF U w a i r)(D:AU w w'):pF U w' a i r :=
 h.imp id λ⟨b,off,l,T,hu,F,G,J⟩=>⟨b,off,l,T,hu,F,G.ext D,J.ext D⟩
theorem pF.head{w:World}{op:Int}{tx:lU}{kids r:Nd}(h:pF U w a i (.cons op ln co tx nm kids r)):∃b off l T ka kn kc D,U b∧a=some ⟨b,off,none⟩∧AM w b l T ∧
   l.drop (off+i*6)=.int .i64 op::.int .i64 ln::.int .i64 co::S tx::.int .i64 nm::.slice ka kn kc::D∧HD U w ka kn kc kids:=by
 rcases h with h|⟨b,off,l,T,hu,F,G,ka,kn,kc,D,J,K,L⟩
 · cases h
 · exact⟨b,off,l,T,ka,kn,kc,D,hu,F,G,J,K⟩
theorem pF.next{w:World}{op:Int}{tx:lU}{kids r:Nd}(h:pF U w a i (.cons op ln co tx nm kids r)):pF U w a (i+1) r:=by
 rcases h with h|⟨b,off,l,T,hu,D,F,ka,kn,kc,G,J,L,K⟩
 · cases h
 · refine .inr ⟨b,off,l,T,hu,D,F,?_⟩
   have:l.drop (off+(i+1)*6)=G:=by
     rw[show off+(i+1)*6=(off+i*6)+6 by omega,← List.drop_drop,J];rfl
   rw[this];exact K
theorem Nd.er_len:∀x:Nd,x.er.len=x.len
 |.nil=>rfl
 |.cons _ _ _ _ _ _ r=>by simp only[Nd.er,Nd.len,Nd.er_len r]
theorem Nq{p:Nat→Prop}(D:p 0)(h:∀m,p m→p (m+1))(m:Nat):p m:=by
 induction m with
 |zero=>exact D
 |succ m F=>exact h m F
end Go.SP
namespace Go.SW
open Go.RowKit
variable {zl:List Value}{bytes cs:Nat}{a:Option Addr}{e:TypeId}
theorem nC{P:Program}{σ:Bf}{w:World}{ty T:TypeId}{x y:Operand}{size:Nat}(D:OB P T=some (e,size,bytes,zl)){b:Option Addr}{c k:Nat}
   (F:ev σ x=some (.slice a k c)) (G:ev σ y=some (.slice b 0 cs)) (J:k≤c):AK P σ (.call {callee:=.builtin .append,args:=#[x,y],argTypes:=#[T,T]}) ty w (.slice a k c) w:=by
 unfold OB at D
 split at D
 · rename_i Z hu
   split at D
   · rename_i i K
     intro ρ _ _ _ _ h
     have L:(Builtin.firstCells i.size 0 (.slice b 0 cs)).run P w=.ok #[] w:=by
       cases b with
       |none=>simp[Builtin.firstCells]
       |some q=>simp only[Builtin.firstCells,Nat.zero_mul];exact run_loadCells_list (P:=P) w q [] (λj v O=>by simp at O)
     have Y:∀q:Addr,(storeCells q []).run P w=.ok () w:=λq=>by simp[storeCells]
     cases a with
     |none=>simp[execOp,resolve,invoke,builtin,h _ _ F,h _ _ G,Builtin.append_,run_underlying hu,sizeOf,typeInfo,K,Builtin.lenOf,J,L]
     |some q=>simp[execOp,resolve,invoke,builtin,h _ _ F,h _ _ G,Builtin.append_,run_underlying hu,sizeOf,typeInfo,K,Builtin.lenOf,J,L,Y]
   · cases D
 · cases D
end Go.SW
namespace Go.SP
open Go.SW Go.RowKit
variable {U:Nat→Prop}{a q':Option Addr}{w':World}
theorem HD.lt{w:World}{n c:Nat}{x:Nd}(h:HD U w a n c x):HD (λb=>U b∧b<w.heap.size) w a n c x:=HD.imp h λ_ hu D=>⟨⟨hu,D⟩,C⟩
theorem HD.grow{w:World}{q:Option Addr}{n c:Nat}{x:Nd}(h:HD U w a n c x)(F:Fj q w q' w')(D:∀b,U b→some b≠rb q):HD U w' a n c x :=
 HD.imp h λb hu G=>⟨hu,F.block b G (D b hu)⟩
theorem Fj.refl(a:Option Addr)(w:World):Fj a w a w:=⟨C,C,C,Nat.le_refl _,λ_ _ _=>C,.inl C⟩
section
variable{P:Program}{n:Nat}{Q:AX}{σ:Bf}{ds:List Deferred}{w w0 w1:World}{ops:Array Oper}{ty T:TypeId}{pos:String}{af:Array Edge}{rest:List Oper}{d:Nat}{x y:Operand}
end
end Go.SP
namespace Go.Proofs.YtelmolopaolbcaaGreatDoor
open Go.SW Go.SP Go.RowKit Go.Proofs.Tryz
theorem OK(w:wO)(f:Fq)(d:Vl w f)(t:T1)(a:oA)(c:Nat)(D:t.bnd)(F:Ak w f t.kids a c) :
  Bq prog 85 #[tV t a c] w (B3 (α:=oA×Nat) (λx=>tV t x.1 x.2) (λ_=>True) (λx=>[λw f=>Ak w f t.kids x.1 x.2]) w f) :=
 Nq (p:=OwnF prog 85) (λw f d t a c h=>by omega) (λm G w f d t a c J K L=>aQ m G w f d t a c J K L) (t.kids.size+1) w f d t a c (Nat.lt_succ_self _) D F
theorem V1(w:wO)(f:Fq)(Q:Vl w f)(k:Ty)(a:oA)(c:Nat)(hl:k.len≤200000)(O:Ak w f k a c) :
  Bq prog 61 #[.slice a k.len c] w (B3 (α:=oA×Nat) (λx=>.slice x.1 k.len x.2) (λ_=>True) (λx=>[λw f=>Ak w f k x.1 x.2]) w f):=by
 refine Cw (X:=X0 w f) (H:=[]) (R:=[]) (B:=[]) (Fs:=[λw f=>Ak w f k a c]) (f:=f) func61 C C C (Ci Q ⟨O,tQ⟩ ⟨Ak.mono,tQ⟩)<|Aa 12 [] (λ_=>AN 4 C C (λF=>?_) (λF=>?_));obtain rfl:a=none:=by cases a with|none=>rfl|some q=>cases F
 obtain rfl:k=.nil:=by rcases O.2 with h|⟨_,_,h,_⟩;exact h;cases h
 exact Aa 8 [] (λ_=>AR (CY C C) (λw f d=>⟨(none,0),f,C,tQ,d.exm,⟨Ak.nil _ _ _ _,tQ⟩⟩));refine Aa 5 [] (λ_=>mb0 C C Tr λG=>Aa 1 [] (λ_=>?_));rcases Nat.eq_zero_or_pos k.len with D|D
 obtain rfl:=Ty.len0 D;exact Dn C C (λw f d=>nC Dl C C (Nat.le_refl _))<|Aa 4 [] (λ_=>AR (CY C C) (λw f d=>⟨(some ⟨G,0,none⟩,0),f,C,tQ,d.exm,⟨Ak.nil _ _ _ _,tQ⟩⟩));refine KU (α:=Nat×Nat×lV) (λx=>a=some ⟨x.1,x.2.1,none⟩∧(∀v∈x.2.2,v.oneCell'=true)∧x.2.2.length=k.len*4) (λx=>[⟨x.1,x.2.1,x.2.2⟩]) (λx=>[λw f=>Bi w f k x.2.2]) (λw f d=>let ⟨x,F,U,Y⟩:=Ak.cells (k:=k) (a:=a) (c:=c) d.f0 D;⟨x,F,(oE U),AI.mem ⟨Y,tQ⟩⟩) (λx=>Aw.mem ⟨Bi.mono,tQ⟩) ?_;rintro⟨eb,eo,xs⟩ ⟨rfl,J,K⟩;exact Zz 0 0 C C Dl C C C C C C K J D (λ_ _=>C) oM oM λa2 c2=>Aa 4 [] (λ_=>AR (CY C C) (λw f d=>let ⟨f2,L,Z⟩:=Pu d d.f0 D;⟨(a2,c2),f2,by simp only[Nat.zero_add],tQ,L.exm,⟨Z,tQ⟩⟩))
theorem CN(w:wO)(f:Fq)(h:Vl w f)(tx:lU)(k:Ty)(a:oA)(c:Nat)(D:k.len≤200000)(F:Ak w f k a c) :
  Bq prog 28 #[S tx,.slice a k.len c] w (B3 (α:=oA×Nat) (λx=>tV (.con tx k) x.1 x.2) (λ_=>True) (λx=>[λw f=>Ak w f k x.1 x.2]) w f):=by
 refine Cw (X:=X0 w f) (H:=[]) (R:=[]) (B:=[]) (Fs:=[λw f=>Ak w f k a c]) (f:=f) func28 C C C (Ci h ⟨F,tQ⟩ ⟨Ak.mono,tQ⟩)<|Aa 9 [] (λb1=>λ_=>Bt C C (eC bO C C) (λw f d=>V1 w f d.vl k a c D d.f0) (λx=>⟨Ak.mono,tQ⟩) ?_);rintro⟨a2,c2⟩ -;exact Aa 5 [0] (y<|λ_=>AR (λw f d=>AE C (Ac C AW d.k0 C)) (λw f d=>⟨(a2,c2),f,C,tQ,d.exm,⟨d.f0,tQ⟩⟩))
theorem Ek(w:wO)(f:Fq)(hv:Vl w f)(sb mb:Nat)(s:BZ)(fr pr:Int)(hS:BC 163 sb mb s fr pr w f)(hw:Jo s)(t:T1)(a:oA)(c:Nat)(hb:t.bnd)(hT:Ak w f t.kids a c) :
  Bq prog 116 #[pB sb,tV t a c] w (B3 (α:=oA×Nat) (λx=>tV (Ap s t) x.1 x.2) (λ_=>True) (λx=>[λw f=>Ak w f (Ap s t).kids x.1 x.2]) w f):=by
 obtain⟨F,es,G,U⟩:=hS;have Q:=G1.dis U hw;have L:=F.lt;have O:=G.lt;refine Cw (X:=X0 w f) (H:=[]) (R:=[]) (B:=[]) (Fs:=[λw f=>Ak w f t.kids a c]) (f:=f) func116 C C C (Ci hv ⟨hT,tQ⟩ ⟨Ak.mono,tQ⟩)<|Aa 8 [] (λb1=>λb2=>λ_=>?_);refine FG (α:=T1×oA×Nat) (λx=>EV s x.1) (λx=>Ap s t=Ap s x.1∧x.1.bnd) (λx=>(E3 0 (pB sb) 3 (pB b1) 4 (pB b2))) (λx=>X0 w f) (λx=>[⟨b2,zT,76,true⟩,⟨b1,tC x.1 x.2.1 x.2.2,76,true⟩]) (λx=>[]) (λx=>[]) (λx=>[λw f=>Ak w f x.1.kids x.2.1 x.2.2]) (t,a,c) ⟨C,hb⟩ lE (λw f J=>J) ?_;rintro⟨u,ua,uc⟩ ⟨hh,hub⟩;dsimp only at hh hub ⊢;refine Aa 8 [1] (y<|λ_=>AN 9 C C (λh1=>?_) (λh1=>?_));refine Aa 5 [] (λ_=>?_);obtain⟨n,rfl⟩:=Ew h1
 cases hl:CU s n with
 |none =>
  have Y:=(G1.look U n).1 hl;refine LM (λw=>AM w sb [.map (some mb),iV fr,iV pr] 163∧BM Fi w mb es) (λw2 f2 _ d=>⟨(d.stp.block sb L (λh=>h)).trans F,G.heap (d.stp.block mb O (λh=>h))⟩) [0,1] Al (rd [0,1,2,3,4,5,6,7,8,9] (.br 10 (.br 11 (.rd 12 .fin) .fin) .fin)) C kR kR kR (λ_ _ _ _ _ h=>h)<|A2 3 [] (λ_=>GI C C C (λw Z=>Ai C Vc Z.2.2.1 C)<|A2 2 [1] (y<|λ_=>GI C C C (λw Z=>J1 (K:=Fi) (a:=n) C C VN PB Pd Z.2.2.2 Q Y)<|A2 3 [] (λ_=>Ag C ?_ Aj)));refine Aa 2 [] (λb3=>λ_=>AY [1,2] (λw2 f2 _ d=>⟨(d.stp.block sb L (λh=>h)).trans F,G.heap (d.stp.block mb O (λh=>h))⟩) C (λ_ h=>h)<|Ag C ?_ Aj);refine Aa 2 [0] (y<|λ_=>AY [1,2] (λw2 f2 _ d=>⟨(d.stp.block sb L (λh=>h)).trans F,G.heap (d.stp.block mb O (λh=>h))⟩) C (λ_ h=>h)<|A2 1 [] (λ_=>Bm<|Aa 12 [] (λ_=>Fh<|Aa 9 [2,1] (y<|y<|λ_=>?_))));have D:Ap s t=.var n:=by rw[hh,Ou hl]
  exact AR (λw f J=>AE C (Ac C AW J.k1 C)) (λw f J=>⟨(ua,uc),f,(by show _=tV (Ap s t) ua uc;rw[D]),tQ,J.exm,⟨by show Ak w f (Ap s t).kids ua uc;rw[D];exact J.f0,tQ⟩⟩)
 |some t2 =>
  refine KU (α:=oA×Nat) (λx=>ER es n=some (tV t2 x.1 x.2)) (λx=>[]) (λx=>[λw f=>Ak w f t2.kids x.1 x.2]) (λw f J=>let ⟨a2,c2,h1,h2⟩:=(G1.look U n).2 t2 hl;⟨(a2,c2),h1,nE,AI.mem ⟨Ak.mono _ _ _ _ h2 J.ent,tQ⟩⟩) (λx=>Aw.mem ⟨Ak.mono,tQ⟩) ?_;rintro⟨a2,c2⟩ Y;refine LM (λw=>AM w sb [.map (some mb),iV fr,iV pr] 163∧BM Fi w mb es) (λw2 f2 _ d=>⟨(d.stp.block sb L (λh=>h)).trans F,G.heap (d.stp.block mb O (λh=>h))⟩) [0,1] Al (rd [0,1,2,3,4,5,6,7,8,9] (.br 10 (.br 11 (.rd 12 .fin) .fin) .fin)) C kR kR kR (λ_ _ _ _ _ h=>h)<|A2 3 [] (λ_=>GI C C C (λw Z=>Ai C Vc Z.2.2.1 C)<|A2 2 [1] (y<|λ_=>GI C C C (λw Z=>J5 (K:=Fi) (a:=n) C C VN PB Pd Z.2.2.2 Q Y)<|A2 3 [] (λ_=>Ag C ?_ Aj)));refine Aa 2 [] (λb4=>λ_=>AY [1,2] (λw2 f2 _ d=>⟨(d.stp.block sb L (λh=>h)).trans F,G.heap (d.stp.block mb O (λh=>h))⟩) C (λ_ h=>h)<|Ag C ?_ Aj);exact Aa 2 [0] (y<|λ_=>AY [1,2] (λw2 f2 _ d=>⟨(d.stp.block sb L (λh=>h)).trans F,G.heap (d.stp.block mb O (λh=>h))⟩) C (λ_ h=>h)<|A2 1 [] (λ_=>Bm<|Aa 16 [0,2] (y<|y<|λ_=>Df ((t2,a2,c2)) (mF hw hl) ⟨by rw[hh,Vb hw hl],O1 hw hl⟩ lE (λw f J=>⟨_,J.less (List.sublist_cons_self _ _) sR nE (mR [0])⟩))))
 refine Aa 3 [] (λ_=>Fh<|Aa 9 [1,0] (y<|y<|λ_=>?_));obtain⟨tx,k,rfl⟩:=FM h1;have D:Ap s t=.con tx k:=by rw[hh,Hd]
 exact AR (λw f J=>AE C (Ac C AW J.k0 C)) (λw f J=>⟨(ua,uc),f,(by show _=tV (Ap s t) ua uc;rw[D]),tQ,J.exm,⟨by show Ak w f (Ap s t).kids ua uc;rw[D];exact J.f0,tQ⟩⟩)
theorem TC(w:wO)(f:Fq)(D:Vl w f)(d:Nat)(n:Int)(J:0≤n∧n≤100000)(F:Kv d n w f)(G:f d=0)(t:T1)(a:oA)(c:Nat) :
  Bq prog 122 #[tV t a c,pB d] w (Fg (α:=Unit) (λ_=>.bool (decide (n+1≤1000))) (λ_=>True) (λb=>b=d) (λ_=>Kv d (n+1)) (λ_=>[]) w f):=by
 exact Cw (X:=⟨λb=>b=d,λ_=>False,λ_ _=>True,w,f⟩) (H:=[⟨d,[iV n],3,false⟩]) (R:=[]) (B:=[]) (Fs:=[]) (f:=f) func122 C C C (memH D F G tQ tQ)<|Aa 21 [1,1,1] (λb1=>y<|aI ⟨oM,oM⟩<|y<|y<|λ_=>AR (CY C C) (λw f h=>⟨(),f,C,tQ,h.exm,h.blk _ tG,tQ⟩))
theorem UX(k:Nat)(ih:∀j,j<k→VisF prog 121 163 122 j)(w:wO)(f:Fq)(hv:Vl w f)(sb mb:Nat)(s:BZ)(fr pr:Int)(F:Nat)(hS:BC 163 sb mb s fr pr w f)(hw:Jo s)(Q:sb≠F)(U:mb≠F)(hf:f F=0)(hC:Kv F (1000-(k:Int)) w f)(hk:k≤1000)(t:T1)(a:oA)(c:Nat)(hb:t.bnd)(hT:Ak w f t.kids a c) :
  Bq prog 121 #[pB sb,tV t a c,.func (.func 122) #[] #[pB F]] w (Fg (α:=Int) (λ_=>.bool (B5 s k t.one).isSome) (λx=>∀j,B5 s k t.one=some j→x=1000-(j:Int)) (λb=>b=F) (λx=>Kv F x) (λ_=>[]) w f):=by
 have hkb:=(Cz hw hb).1;refine Cw (X:=⟨λb=>b=F,λb=>b=F,Kv F (1000-(k:Int)),w,f⟩) (H:=[]) (R:=[]) (B:=[]) (Fs:=[λw f=>Ak w f t.kids a c]) (f:=f) func121 C C C (Te (M:=λb=>b=F) (I:=Kv F (1000-(k:Int))) hv hC (Kv.stab C) (λb hb=>by cases hb;exact⟨AM.lt hC,hf⟩) ⟨hT,tQ⟩ ⟨Ak.mono,tQ⟩)<|Aa 10 [0] (λb1=>y<|λ_=>Bt C C (eC GU C C) (λw f D=>Ek w f D.vl sb mb s fr pr (BC.keep hS D.exm D.ent Q U) hw t a c hb D.f0) (λx=>⟨Ak.mono,tQ⟩) ?_);rintro⟨Y,hc⟩ -;refine Aa 8 [0,0] (y<|y<|λ_=>P8 (XX:=λ_ _=>False) C C (λ_=>UG (caps:=[pB F]) nK C C) (λw f D=>(TC w f D.vl F (1000-(k:Int)) oM D.res (D.mi F C).2.1 (Ap s t) Y hc).retP) (λ_=>Kv.stab C) (λ_=>trivial) (λ_ _ _ _ _ h=>h.elim) ?_);rintro⟨⟩ -;refine Aa 3 [] (λ_=>AN 15 C C (λZ=>?_) (λZ=>?_));replace Z:=FE Z;refine Aa 8 [] (λ_=>?_);obtain rfl:k=0:=by have:=dF Z;omega
 have d:=Lh s t;exact AR (CY C C) (λw f D=>⟨_,f,(by rw[d];rfl),(λj h=>by rw[d] at h;cases h),D.exm,D.res,tQ⟩);replace Z:=FO Z;refine Aa 5 [] (λ_=>?_);obtain⟨k2,rfl⟩:∃k2,k=k2+1:=⟨k-1,by have:=dT Z;omega⟩;refine Aa 6 [0] (y<|λ_=>AN 18 C C (λh2=>?_) (λh2=>?_));refine Aa 10 [0] (y<|λ_=>?_);refine FG (α:=Nat×Ty×Nat) (λx=>x.2.1.len) (λx=>x.1+x.2.1.len=(Ap s t).kids.len∧B5 s k2 (Ap s t).kids=B5 s x.2.2 x.2.1∧x.2.2≤k2∧x.2.1.bnd) (λx=>(E6 0 (pB sb) 2 (.func (.func 122) #[] #[pB F]) 4 (pB b1) 20 (.slice Y (Ap s t).kids.len hc) 21 (iV ((Ap s t).kids.len:Int)) 22 (iV (x.1:Int)))) (λx=>⟨λb=>b=F,λb=>b=F,Kv F (1000-(x.2.2:Int)),w,f⟩) (λx=>[⟨b1,tC (Ap s t) Y hc,76,true⟩]) (λx=>[]) (λx=>[]) (λx=>[λw f=>BN w f Y x.1 x.2.1]) (0,(Ap s t).kids,k2) ⟨by simp,C,Nat.le_refl _,(Cz hw hb).2⟩ lE (λw f D=>(by have K:=D.more (B':=[]) (F':=[λw f=>BN w f Y 0 (Ap s t).kids]) nE (AI.mem ⟨Ak.at D.f0,tQ⟩) (Aw.mem ⟨BN.mono,tQ⟩) |>.less (H':=[⟨b1,tC (Ap s t) Y hc,76,true⟩]) (R':=[]) (B':=[]) (F':=[λw f=>BN w f Y 0 (Ap s t).kids]) sR sR nE (mR [0]);rw[show (1000-((k2+1:Nat):Int))+1=1000-(k2:Int) by omega] at K;exact K)) ?_;rintro⟨i,r,j⟩ ⟨hi,J,hjk,hrb⟩;dsimp only at hi J hjk hrb ⊢;refine Aa 6 [] (λ_=>AN 23 C C (λh3=>?_) (λh3=>?_));refine Aa 6 [] (λ_=>?_);have hil:i<(Ap s t).kids.len:=by have:=dT h3;omega
 obtain⟨t2,r,rfl⟩:=Ty.cases1 r oM;rw[T1.len_cons] at hi;refine Z8 0 C ?_;rintro⟨eb,eo,ka,kc⟩ rfl;refine Aa 12 [100,0,0,0] (aI oM<|y2<|λb2=>y<|y<|λ_=>P8 (XX:=λ_ _=>False) C C (eC Nv C C) (λw f D=>(ih j oM w f D.vl sb mb s fr pr F (BC.keep hS D.exm D.ent Q U) hw Q U (D.mi F C).2.1 D.res oM t2 ka kc (T1.bnd_cons.1 hrb).1 D.f0).retP) (λ_=>Kv.stab C) (λ_=>trivial) (λ_ _ _ _ _ h=>h.elim) ?_);rintro cx hcx;refine Aa 3 [] (λ_=>AN 30 C C (λO=>?_) (λO=>?_));replace O:=FE O;have L:B5 s j t2.one=none:=by cases hx:B5 s j t2.one with|none=>rfl|some q=>rw[hx] at O;cases O
 refine Aa 9 [] (λ_=>Z0<|Aa 2 [] (λ_=>?_));have G:=Kh s k2 t;have d:B5 s (k2+1) t.one=none:=by rw[G,J,JL,L];rfl
 exact AR (CY C C) (λw f D=>⟨_,f,(by rw[d];rfl),(λj h=>by rw[d] at h;cases h),D.exm,D.res,tQ⟩);replace O:=FO O;obtain⟨j2,L⟩:=Option.isSome_iff_exists.1 O;exact Aa 8 [] (aI ⟨oM,oM⟩<|λ_=>Df ((i+1,r,j2)) (show r.len<(t2.cons r).len by rw[T1.len_cons];omega) ⟨show i+1+r.len=(Ap s t).kids.len by omega,show B5 s k2 (Ap s t).kids=B5 s j2 r by rw[J,JL,L];rfl,show j2≤k2 by have:=ES s j t2.one j2 L;omega,(T1.bnd_cons.1 hrb).2⟩ lE (λw f D=>⟨_,by have K:=D.less (H':=[⟨b1,tC (Ap s t) (some ⟨eb,eo,none⟩) hc,76,true⟩]) (R':=[]) (B':=[]) (F':=[λw f=>BN w f (some ⟨eb,eo,none⟩) (i+1) r]) (List.sublist_cons_self _ _) sR nE (mR [1]);rw[hcx j2 L] at K;exact K⟩));refine Aa 3 [] (λ_=>Fh<|Aa 8 [] (λ_=>?_));have G:=Kh s k2 t;obtain rfl:r=.nil:=Ty.len0 (by have:=dF h3;omega);have d:B5 s (k2+1) t.one=some j:=by rw[G,J];cases j <;> rfl
 exact AR (CY C C) (λw f D=>⟨_,f,(by rw[d];rfl),(λq h=>by rw[d] at h;cases h;rfl),D.exm,D.res,tQ⟩);refine Aa 9 [] (λ_=>?_);have G:=Kh s k2 t;obtain⟨n,hv2⟩:=Ew (t:=Ap s t) (by have:=h2;simpa using this);have d:B5 s (k2+1) t.one=some k2:=by rw[G,hv2];cases k2 <;> rfl
 exact AR (CY C C) (λw f D=>⟨_,f,(by rw[d];rfl),(λq h=>by rw[d] at h;cases h;omega),D.exm,D.res,tQ⟩)
theorem UL:∀k,VisF prog 121 163 122 k:=λk=>Nat.strongRecOn k λk D w f F sb mb s fr pr G J hw d h K L O t a c Q U=>UX k D w f F sb mb s fr pr G J hw d h K L O t a c Q U
theorem Pt(w:wO)(f:Fq)(L:Vl w f)(sb mb:Nat)(s:BZ)(fr pr:Int)(F:BC 163 sb mb s fr pr w f)(hw:Jo s)(t:T1)(a:oA)(c:Nat)(G:t.bnd)(O:Ak w f t.kids a c) :
  Bq prog 96 #[pB sb,tV t a c] w (B3 (α:=Unit) (λ_=>.bool (HZ s t)) (λ_=>True) (λ_=>[]) w f):=by
 have J:=F.1.lt;have K:mb<w.heap.size:=by obtain⟨_,es,h,_⟩:=F;exact h.lt
 refine Cw (X:=X0 w f) (H:=[]) (R:=[]) (B:=[]) (Fs:=[λw f=>Ak w f t.kids a c]) (f:=f) func96 C C C (Ci L ⟨O,tQ⟩ ⟨Ak.mono,tQ⟩)<|Aa 16 [0,1] (λb1=>λb2=>y<|y<|λ_=>Dn C C (λw f d=>RJ C)<|yE 0 C C<|Jf (λw f d=>(⟨λe=>(d.mi _ (.inr C)).2.2.elim (λh=>absurd J (by rw[e];exact Nat.not_lt.2 h)) (λh=>h),λe=>(d.mi _ (.inr C)).2.2.elim (λh=>absurd K (by rw[e];exact Nat.not_lt.2 h)) (λh=>h)⟩:sb≠b2∧mb≠b2)) λD=>P8 (α:=Int) (val:=λ_=>.bool (B5 s 1000 t.one).isSome) (q:=λ_=>True) (I':=λx w f=>True∧Kv b2 x w f) (F':=λ_=>[]) (XX:=λ_ _=>False) C C (eC Nv C C) (λw f d=>((UL 1000 w f d.vl sb mb s fr pr b2 (BC.keep F d.exm d.ent (λh=>h) (λh=>h)) hw D.1 D.2 (d.mi _ (.inr C)).2.1 d.res.2 (Nat.le_refl _) t a c G d.f0).mono λv w2 ⟨x,f2,Q,h2,U,Y,Z⟩=>⟨x,f2,Q,tQ,U.mono (λb G=>.inr G),⟨tQ,Y⟩,Z⟩).retP) (λ_=>(λ_ _ _ _ h hF hm=>⟨tQ,Kv.stab (MI:=λb=>False∨b=b2) (.inr C) _ _ _ _ h.2 hF hm⟩)) (λ_=>trivial) (λ_ _ _ _ _ h=>h.elim) ?_);rintro cx -;exact Aa 4 [] (λ_=>AR (CY C C) (λw f d=>⟨(),f,(by rw[HZ,FL]),tQ,d.exm,tQ⟩))
theorem UD(w:wO)(f:Fq)(K:Vl w f)(D:Nat)(x:Int)(J:AM w D [iV x] 3)(t:T1)(a:oA)(c:Nat) :
  Bq prog 140 #[tV t a c,pB D] w (B3 (α:=Unit) (λ_=>.bool (Yc x t)) (λ_=>True) (λ_=>[]) w f):=by
 have F:=J.lt;refine Cw (X:=X0 w f) (H:=[]) (R:=[]) (B:=[]) (Fs:=[]) (f:=f) func140 C C C (Ci K tQ tQ)<|Aa 12 [0] (λb1=>y<|λ_=>AN 7 C C (λG=>?_) (λG=>?_));refine Aa 9 [] (λ_=>?_)
 cases t with
 |var m=>cases G
 |con tx k=>exact AR (CY C C) (λw f d=>⟨(),f,C,tQ,d.exm,tQ⟩)
 refine Aa 2 [0] (y<|λ_=>Dn C C (λw f d=>Ai C Iw ((d.stp.block D F (λh=>h)).trans J) C)<|Aa 6 [] (λ_=>?_))
 cases t with
 |var m=>exact AR (CY C C) (λw f d=>⟨(),f,C,tQ,d.exm,tQ⟩)
 |con tx k=>cases G
theorem S3(k:Nat)(ih:∀j,j<k→yQ prog 121 163 140 j)(w:wO)(f:Fq)(hv:Vl w f)(sb mb:Nat)(s:BZ)(fr pr:Int)(L:Nat)(x:Int)(hS:BC 163 sb mb s fr pr w f)(hw:Jo s)(hB:AM w L [iV x] 3)(t:T1)(a:oA)(c jj:Nat)(hb:t.bnd)(hT:Ak w f t.kids a c)(F:B5 s k t.one=some jj) :
  Bq prog 121 #[pB sb,tV t a c,.func (.func 140) #[] #[pB L]] w (B3 (α:=Unit) (λ_=>.bool (CV s x k t.one)) (λ_=>True) (λ_=>[]) w f):=by
 have hkb:=(Cz hw hb).1;have Z:=hB.lt;obtain⟨k2,rfl⟩:∃q,k=q+1:=by cases k with|zero=>rw[Lh] at F;cases F|succ q=>exact⟨q,C⟩
 have hk3:B5 s k2 (Ap s t).kids=some jj:=by rw[← Kh];exact F
 refine Cw (X:=X0 w f) (H:=[]) (R:=[]) (B:=[]) (Fs:=[λw f=>Ak w f t.kids a c]) (f:=f) func121 C C C (Ci hv ⟨hT,tQ⟩ ⟨Ak.mono,tQ⟩)<|Aa 10 [0] (λb1=>y<|λ_=>Bt C C (eC GU C C) (λw f d=>Ek w f d.vl sb mb s fr pr (BC.keep hS d.exm d.ent (λh=>h) (λh=>h)) hw t a c hb d.f0) (λx=>⟨Ak.mono,tQ⟩) ?_);rintro⟨Q,hc⟩ -;refine Aa 8 [0,0] (y<|y<|λ_=>Bt C C (λ_=>UG (caps:=[pB L]) nZ C C) (λw f d=>UD w f d.vl L x ((d.stp.block L Z (λh=>h)).trans hB) (Ap s t) Q hc) (λx=>trivial) ?_);rintro⟨⟩ -;refine Aa 3 [] (λ_=>AN 15 C C (λO=>?_) (λO=>?_));replace O:=FE O;refine Aa 8 [] (λ_=>?_);have D:CV s x (k2+1) t.one=false:=by rw[JU,O];rfl
 exact AR (CY C C) (λw f d=>⟨(),f,(by rw[D]),tQ,d.exm,tQ⟩);replace O:=FO O;refine Aa 11 [0] (y<|λ_=>AN 18 C C (λh2=>?_) (λh2=>?_));refine Aa 10 [0] (y<|λ_=>?_);refine FG (α:=Nat×Ty×Nat) (λy=>y.2.1.len) (λy=>y.1+y.2.1.len=(Ap s t).kids.len∧B5 s k2 (Ap s t).kids=B5 s y.2.2 y.2.1∧y.2.2≤k2∧y.2.1.bnd∧CV s x k2 (Ap s t).kids=CV s x y.2.2 y.2.1) (λy=>(E6 0 (pB sb) 2 (.func (.func 140) #[] #[pB L]) 4 (pB b1) 20 (.slice Q (Ap s t).kids.len hc) 21 (iV ((Ap s t).kids.len:Int)) 22 (iV (y.1:Int)))) (λy=>X0 w f) (λy=>[⟨b1,tC (Ap s t) Q hc,76,true⟩]) (λy=>[]) (λy=>[]) (λy=>[λw f=>BN w f Q y.1 y.2.1]) (0,(Ap s t).kids,k2) ⟨by simp,C,Nat.le_refl _,(Cz hw hb).2,C⟩ lE (λw f d=>d.more (B':=[]) (F':=[λw f=>BN w f Q 0 (Ap s t).kids]) nE (AI.mem ⟨Ak.at d.f0,tQ⟩) (Aw.mem ⟨BN.mono,tQ⟩) |>.less (H':=[⟨b1,tC (Ap s t) Q hc,76,true⟩]) (R':=[]) (B':=[]) (F':=[λw f=>BN w f Q 0 (Ap s t).kids]) sR sR nE (mR [0])) ?_;rintro⟨i,r,j⟩ ⟨hi,G,hjk,U,K⟩;dsimp only at hi G hjk U K ⊢;refine Aa 6 [] (λ_=>AN 23 C C (λh3=>?_) (λh3=>?_));refine Aa 6 [] (λ_=>?_);have hil:i<(Ap s t).kids.len:=by have:=dT h3;omega
 obtain⟨t2,r,rfl⟩:=Ty.cases1 r oM;rw[T1.len_cons] at hi;refine Z8 0 C ?_;rintro⟨eb,eo,ka,kc⟩ rfl;refine Aa 12 [100,0,0,0] (aI oM<|y2<|λb2=>y<|y<|λ_=>?_);obtain⟨j2,J⟩:∃q,B5 s j t2.one=some q:=by cases hx:B5 s j t2.one with|some q=>exact⟨q,C⟩|none=>rw[G,JL,hx] at hk3;cases hk3
 refine Bt C C (eC Nv C C) (λw f d=>ih j oM w f d.vl sb mb s fr pr L x (BC.keep hS d.exm d.ent (λh=>h) (λh=>h)) hw ((d.stp.block L Z (λh=>h)).trans hB) t2 ka kc j2 (T1.bnd_cons.1 U).1 d.f0 J) (λx=>trivial) ?_;rintro⟨⟩ -;refine Aa 3 [] (λ_=>AN 30 C C (λY=>?_) (λY=>?_));replace Y:=FE Y;refine Aa 9 [] (λ_=>Z0<|Aa 2 [] (λ_=>?_));have D:CV s x (k2+1) t.one=false:=by rw[JU,K,Qx J,Y];simp
 exact AR (CY C C) (λw f d=>⟨(),f,(by rw[D]),tQ,d.exm,tQ⟩);replace Y:=FO Y;exact Aa 8 [] (aI ⟨oM,oM⟩<|λ_=>Df ((i+1,r,j2)) (show r.len<(t2.cons r).len by rw[T1.len_cons];omega) ⟨show i+1+r.len=(Ap s t).kids.len by omega,show B5 s k2 (Ap s t).kids=B5 s j2 r by rw[G,JL,J];rfl,show j2≤k2 by have:=ES s j t2.one j2 J;omega,(T1.bnd_cons.1 U).2,show CV s x k2 (Ap s t).kids=CV s x j2 r by rw[K,Qx J,Y];rfl⟩ lE (λw f d=>⟨_,d.less (H':=[⟨b1,tC (Ap s t) (some ⟨eb,eo,none⟩) hc,76,true⟩]) (R':=[]) (B':=[]) (F':=[λw f=>BN w f (some ⟨eb,eo,none⟩) (i+1) r]) (List.sublist_cons_self _ _) sR nE (mR [1])⟩));refine Aa 3 [] (λ_=>Fh<|Aa 8 [] (λ_=>?_));obtain rfl:r=.nil:=Ty.len0 (by have:=dF h3;omega);have D:CV s x (k2+1) t.one=true:=by rw[JU,O,K];cases j <;> rfl
 exact AR (CY C C) (λw f d=>⟨(),f,(by rw[D]),tQ,d.exm,tQ⟩);refine Aa 9 [] (λ_=>?_);obtain⟨n,hv2⟩:=Ew (t:=Ap s t) (by have:=h2;simpa using this);have D:CV s x (k2+1) t.one=true:=by rw[JU,O,hv2];cases k2 <;> rfl
 exact AR (CY C C) (λw f d=>⟨(),f,(by rw[D]),tQ,d.exm,tQ⟩)
theorem Uv:∀k,yQ prog 121 163 140 k:=λk=>Nat.strongRecOn k λk d w f h sb mb s fr pr D x F hw G t a c j J K L=>S3 k d w f h sb mb s fr pr D x F hw G t a c j J K L
theorem Ma(w:wO)(f:Fq)(Z:Vl w f)(sb mb:Nat)(s:BZ)(fr pr:Int)(hS:BC 163 sb mb s fr pr w f)(hf:f sb=0∧f mb=0)(L:sb≠mb)(hw:Jo s)(n:Int)(O:CU s n=none)(t:T1)(a:oA)(c:Nat)(U:t.bnd)(hT:Ak w f t.kids a c) :
  Bq prog 117 #[pB sb,iV n,tV t a c] w (Fg (α:=Unit) (λ_=>iV (JG s n t).1) (λ_=>True) (MY sb mb) (λ_=>BC 163 sb mb (JG s n t).2 fr pr) (λ_=>[]) w f):=by
 refine Cw (X:=XS 163 sb mb s fr pr w f) (H:=[]) (R:=[]) (B:=[]) (Fs:=[λw f=>Ak w f t.kids a c]) (f:=f) func117 C C C (mA Z hS hf ⟨hT,tQ⟩ ⟨Ak.mono,tQ⟩)<|Aa 12 [0] (λb1=>λb2=>y<|λ_=>Bt C C (eC iG C C) (λw f d=>Pt w f d.vl sb mb s fr pr d.res hw t a c U d.f0) (λx=>trivial) ?_);rintro⟨⟩ -;refine Aa 3 [] (λ_=>AN 10 C C (λD=>?_) (λD=>?_));replace D:=FE D;refine Aa 8 [] (λ_=>?_);have G:=Yf (n:=n) D;exact AR (CY C C) (λw f d=>⟨(),f,(by rw[G]),tQ,d.exm,(by rw[G];exact d.res),tQ⟩);replace D:=FO D;refine Aa 8 [0] (y<|λ_=>Dn C C (λw f d=>RJ C) ?_);obtain⟨j,hj⟩:∃j,B5 s 1000 t.one=some j:=by have Y:=D;rw[HZ,FL] at Y;exact Option.isSome_iff_exists.1 Y
 refine Bt C C (eC Nv C C) (λw f d=>Uv 1000 w f d.vl sb mb s fr pr b1 n d.res hw d.k1 t a c j U d.f0 hj) (λx=>trivial) ?_;rintro⟨⟩ -;refine Aa 3 [] (λ_=>AN 15 C C (λF=>?_) (λF=>?_));replace F:=FE F;refine Aa 8 [] (λ_=>?_);have G:=fE D F;exact AR (CY C C) (λw f d=>⟨(),f,(by rw[G]),tQ,d.exm,(by rw[G];exact d.res),tQ⟩);replace F:=FO F;refine Aa 4 [] (λ_=>oZ (nU 163 sb mb s fr pr) (λw f h=>let ⟨D,es,F,h3⟩:=h;⟨es,D,F,h3⟩) (λ_=>nU.stab (.inl C) (.inr C)) ?_);intro es;refine Jf (λw f d=>(⟨G1.dis d.res.2.2 hw,(G1.look d.res.2.2 n).1 O⟩:Jp es∧ER es n=none)) λJ=>LM (λw=>AM w sb [.map (some mb),iV fr,iV pr] 163) (λw f h _=>h.1) [0,1] Al (rd [0,1,2,3,4,5] (.br 6 .fin .fin)) C kR kR kR (λ_ _ _ _ _ h=>h)<|A2 3 [] (λ_=>GI C C C (λw hK=>Ai C Vc hK.2.2 C)<|A2 2 [1,0] (y<|y<|λ_=>Ag C ?_ Aj));refine cN (K:=Fi) (a:=n) (l:=es) (I':=BC 163 sb mb ((n,t)::s) fr pr) C C C C VN PB (.inr C) J.1 J.2 (λw f h=>h.2.1) (λw f w2 h d Q hm=>⟨(Q.block sb L).trans h.1,_,hm,a,c,es,C,Ak.mono _ _ _ _ d.f0 (Q.fle (d.mi mb (.inr C)).2.1),G1.mono (Q.fle (d.mi mb (.inr C)).2.1) s es h.2.2⟩) (BC.stab (.inl C) (.inr C))<|Aa 1 [] (λ_=>AY [0,1] (λw f h _=>h.1) C (λ_ h=>h)<|Bm<|Aa 7 [] (λ_=>?_));have G:=fU D F;exact AR (CY C C) (λw f d=>⟨(),f,(by rw[G]),tQ,d.exm,(by rw[G];exact d.res),tQ⟩)
theorem OM(w:wO)(f:Fq)(G:Vl w f)(sb mb:Nat)(s:BZ)(fr pr:Int)(J:BC 163 sb mb s fr pr w f)(K:f sb=0∧f mb=0)(D:sb≠mb)  (L:0≤fr∧fr<1000000000000) :
  Bq prog 66 #[pB sb] w (Fg (α:=Unit) (λ_=>tV (.var (fr+1)) none 0) (λ_=>True) (MY sb mb) (λ_=>BC 163 sb mb s (fr+1) pr) (λ_=>[]) w f):=by
 refine Cw (X:=XS 163 sb mb s fr pr w f) (H:=[]) (R:=[]) (B:=[]) (Fs:=[]) (f:=f) func66 C C C (mA G J K tQ tQ)<|Aa 20 [] (λb1=>λ_=>Dn C C (λw f d=>Ai C Iw d.res.1 C)<|Aa 3 [] (aI ⟨oM,oM⟩<|λ_=>Vx (b:=sb) (I':=BC 163 sb mb s (fr+1) pr) C C C C Iw C C C (.inl C) (λw f h=>h.1) (λw f Y h d F O=>⟨O,let ⟨_,es,Q,U⟩:=h;⟨es,Q.heap (F.block mb (λe=>D e.symm)),G1.mono (F.fle (d.mi sb (.inl C)).2.1) s es U⟩⟩) (BC.stab (.inl C) (.inr C))<|Aa 7 [] (λ_=>Dn C C (λw f d=>Ai C Iw d.res.1 C)<|Bt C C (eC Hx C C) (λw f d=>DV w f d.vl (fr+1)) (λx=>trivial) ?_)));rintro⟨⟩ -;exact Aa 4 [0] (y<|λ_=>AR (λw f d=>AE C (Ac C AW d.k0 C)) (λw f d=>⟨(),f,C,tQ,d.exm,d.res,tQ⟩))
theorem Zo(k:Nat)(ih:∀j,j<k→qM prog 87 163 j)(w:wO)(f:Fq)(hv:Vl w f)(sb mb:Nat)(s:BZ)(fr:Int)(hS:BC 163 sb mb s fr (10000-(k:Int)) w f)(hf:f sb=0∧f mb=0)(hne:sb≠mb)(hw:Jo s)(hk:k≤10000)(t u:T1)(a:oA)(c:Nat)(a2:oA)(c2:Nat)(hbt:t.bnd)(Q:u.bnd)(hT:Ak w f t.kids a c)(hU:Ak w f u.kids a2 c2) :
  Bq prog 87 #[pB sb,tV t a c,tV u a2 c2] w (Fg (α:=Int×BZ×Int) (λx=>iV x.1) (λx=>(∀z,Hg k s t.one u.one=.ok z→x.1=0∧x.2.1=z.2∧x.2.2=10000-(z.1:Int)∧Jo z.2)∧∀e,Hg k s t.one u.one=.error e→x.1=e∧e≠0) (MY sb mb) (λx=>BC 163 sb mb x.2.1 fr x.2.2) (λ_=>[]) w f):=by
 have hkt:=(Cz hw hbt).1;have hku:=(Cz hw Q).1;refine Cw (X:=XS 163 sb mb s fr (10000-(k:Int)) w f) (H:=[]) (R:=[]) (B:=[]) (Fs:=[λw f=>Ak w f t.kids a c,λw f=>Ak w f u.kids a2 c2]) (f:=f) func87 C C C (mA hv hS hf ⟨hT,hU,tQ⟩ ⟨Ak.mono,Ak.mono,tQ⟩)<|Aa 13 [] (λb1=>λb2=>λ_=>Dn C C (λw f d=>Ai C Iw d.res.1 C)<|Aa 3 [] (λ_=>AN 13 C C (λh1=>?_) (λh1=>?_)));refine Aa 8 [] (λ_=>?_);obtain rfl:k=0:=by have J:=beq_iff_eq.1 h1;omega
 have D:=jK s t u;exact AR (CY C C) (λw f d=>⟨(4,s,_),f,C,⟨λz h=>(by rw[D] at h;cases h),λe h=>(by rw[D] at h;cases h;exact⟨C,dC⟩)⟩,d.exm,d.res,tQ⟩);refine Aa 4 [] (λ_=>?_);obtain⟨k2,rfl⟩:∃q,k=q+1:=⟨k-1,by have J:=h1;have:¬(10000-(k:Int))=10000:=(by simpa using J);omega⟩;refine Aa 4 [] (λ_=>Dn C C (λw f d=>Ai C Iw d.res.1 C)<|Aa 3 [] (aI ⟨oM,oM⟩<|λ_=>Vx (b:=sb) (I':=BC 163 sb mb s fr (10000-(k2:Int))) C C C C Iw C C C (.inl C) (λw f h=>h.1) (λw f w2 h d hC hb=>(by rw[show (10000-((k2+1:Nat):Int)+1)=10000-(k2:Int) by omega] at hb;exact⟨hb,let ⟨_,es,h2,h3⟩:=h;⟨es,h2.heap (hC.block mb (λe=>hne e.symm)),G1.mono (hC.fle (d.mi sb (.inl C)).2.1) s es h3⟩⟩)) (BC.stab (.inl C) (.inr C))<|Aa 3 [] (λ_=>?_)));refine Po (α:=oA×Nat×oA×Nat) (λx=>True) (λx=>(E3 0 (pB sb) 4 (pB b1) 5 (pB b2))) (λx=>⟨MY sb mb,MY sb mb,BC 163 sb mb s fr (10000-(k2:Int)),w,f⟩) (λx=>[⟨b2,tC (Ap s u) x.2.2.1 x.2.2.2,76,true⟩,⟨b1,tC (Ap s t) x.1 x.2.1,76,true⟩]) (λx=>[]) (λx=>[]) (λx=>[λw f=>Ak w f (Ap s t).kids x.1 x.2.1,λw f=>Ak w f (Ap s u).kids x.2.2.1 x.2.2.2]) ?_ ?_;refine CF [] Al (.rd 0 (.rd 3 (.br 1 (.br 2 (.br 4 (.br 5 (.br 6 (.br 7 .fin .fin) .fin) .fin) .fin) (.br 4 (.br 2 (.br 5 (.br 6 (.br 7 .fin .fin) .fin) .fin) .fin) .fin)) (.br 4 (.br 1 (.br 2 (.br 5 (.br 6 (.br 7 .fin .fin) .fin) .fin) .fin) .fin) .fin)))) C kR<|A2 2 [] (λ_=>Ag C ?_ ?_);refine Aa 2 [1] (y<|λ_=>Au [] C<|Ag C ?_ ?_);refine Bt C C (eC GU C C) (λw f d=>Ek w f d.vl sb mb s fr (10000-(k2:Int)) d.res hw t a c hbt d.f0) (λx=>⟨Ak.mono,tQ⟩) ?_;rintro⟨ha,hc⟩ -;refine Aa 1 [] (λ_=>Au [] C<|Ag C ?_ Aj);refine Aa 2 [0] (y<|λ_=>Au [] C<|Ag C ?_ Aj);refine Bt C C (eC GU C C) (λw f d=>Ek w f d.vl sb mb s fr (10000-(k2:Int)) d.res hw u a2 c2 Q d.f2) (λx=>⟨Ak.mono,tQ⟩) ?_;rintro⟨ga,gc⟩ -;refine Aa 1 [] (λ_=>Au [] C<|Ag C ?_ Aj);refine Aa 2 [1] (y<|λ_=>Au [] C<|Ag C ?_ Aj);exact Aa 2 [0] (y<|λ_=>Au [] C<|Bm<|IB (ha,hc,ga,gc) tQ lE (λw f d=>⟨f,d.less sR sR (λ_ h=>h) (mR [1,0])⟩));refine Ag C ?_ Aj;refine Aa 2 [0] (y<|λ_=>Au [] C<|Ag C ?_ Aj);refine Bt C C (eC GU C C) (λw f d=>Ek w f d.vl sb mb s fr (10000-(k2:Int)) d.res hw t a c hbt d.f0) (λx=>⟨Ak.mono,tQ⟩) ?_;rintro⟨ha,hc⟩ -;refine Aa 1 [] (λ_=>Au [] C<|Ag C ?_ Aj);refine Bt C C (eC GU C C) (λw f d=>Ek w f d.vl sb mb s fr (10000-(k2:Int)) d.res hw u a2 c2 Q d.f2) (λx=>⟨Ak.mono,tQ⟩) ?_;rintro⟨ga,gc⟩ -;refine Aa 1 [] (λ_=>Au [] C<|Ag C ?_ Aj);refine Aa 2 [1] (y<|λ_=>Au [] C<|Ag C ?_ Aj);exact Aa 2 [0] (y<|λ_=>Au [] C<|Bm<|IB (ha,hc,ga,gc) tQ lE (λw f d=>⟨f,d.less sR sR (λ_ h=>h) (mR [1,0])⟩));refine Ag C ?_ Aj;refine Aa 2 [0] (y<|λ_=>Au [] C<|Ag C ?_ Aj);refine Aa 2 [1] (y<|λ_=>Au [] C<|Ag C ?_ Aj)
 refine Bt C C (eC GU C C) (λw f d=>Ek w f d.vl sb mb s fr (10000-(k2:Int)) d.res hw t a c hbt d.f0) (λx=>⟨Ak.mono,tQ⟩) ?_;rintro⟨ha,hc⟩ -;refine Aa 1 [] (λ_=>Au [] C<|Ag C ?_ Aj);refine Bt C C (eC GU C C) (λw f d=>Ek w f d.vl sb mb s fr (10000-(k2:Int)) d.res hw u a2 c2 Q d.f2) (λx=>⟨Ak.mono,tQ⟩) ?_;rintro⟨ga,gc⟩ -;refine Aa 1 [] (λ_=>Au [] C<|Ag C ?_ Aj);refine Aa 2 [1] (y<|λ_=>Au [] C<|Ag C ?_ Aj);exact Aa 2 [0] (y<|λ_=>Au [] C<|Bm<|IB (ha,hc,ga,gc) tQ lE (λw f d=>⟨f,d.less sR sR (λ_ h=>h) (mR [1,0])⟩));rintro⟨ha,hc,ga,gc⟩ -;dsimp only;refine Aa 9 [1] (y<|λ_=>AN 31 C C (λh2=>?_) (λh2=>?_));refine Aa 5 [0] (y<|λ_=>AN 36 C C (λh3=>?_) (λh3=>?_));refine Aa 9 [1,0] (y<|y<|λ_=>AN 27 C C (λh4=>?_) (λh4=>?_));refine Aa 9 [] (λ_=>?_);obtain⟨n,L⟩:=Ew h2;obtain⟨m,hm⟩:=Ew h3;have D:Hg (k2+1) s t.one u.one=.ok (k2,s):=by rw[KC,L,hm];simp only[KY];rw[if_pos (by have J:=h4;rw[L,hm] at J;exact J)];cases k2 <;> rfl
 exact AR (CY C C) (λw f d=>⟨(0,s,_),f,C,⟨λz h=>(by rw[D] at h;cases h;exact⟨C,C,C,hw⟩),λe h=>(by rw[D] at h;cases h)⟩,d.exm,d.res,tQ⟩);refine Aa 9 [1] (y<|λ_=>mkn 43 true C C h2<|Aa 7 [1,0] (y<|y<|λ_=>?_));obtain⟨n,L⟩:=Ew h2;refine P8 (XX:=λ_ _=>False) C C (eC RR C C) (λw f d=>(Ma w f d.vl sb mb s fr (10000-(k2:Int)) d.res ⟨(d.mi sb (.inl C)).2.1,(d.mi mb (.inr C)).2.1⟩ hne hw (Ap s t).num (by rw[L];exact FT hw L) (Ap s u) ga gc (Cz hw Q) d.f1).retP) (λ_=>(BC.stab (.inl C) (.inr C))) (λ_=>trivial) (λ_ _ _ _ _ h=>h.elim) ?_;rintro⟨⟩ -;refine Aa 6 [] (λ_=>?_)
 have D:Hg (k2+1) s t.one u.one=(match Cv s n (Ap s u) with|.error e=>.error e|.ok b=>.ok (k2,b)):=by
  rw[KC,L]
  cases hm:(Ap s u) with
  |var m=>simp only[KY];rw[if_neg (by have J:=h4;rw[L,hm] at J;simp only[T1.num] at J;rw[J];simp)];cases Cv s n (.var m) with|error e=>rfl|ok b=>cases k2 <;> rfl
  |con ty kb=>simp only[KY];cases Cv s n (.con ty kb) with|error e=>rfl|ok b=>cases k2 <;> rfl
 have U:(Ap s t).num=n:=by rw[L];rfl
 have F:JG s (Ap s t).num (Ap s u)=(match Cv s n (Ap s u) with|.error e=>(e,s)|.ok b=>(0,b)):=by rw[U];rfl
 cases G:Cv s n (Ap s u) with
 |error er=>rw[G] at D F;exact AR (CY C C) (λw f d=>⟨(er,s,_),f,(by rw[F]),⟨λz h=>(by rw[D] at h;cases h),λe h=>(by rw[D] at h;cases h;exact⟨C,Rr G⟩)⟩,d.exm,(by have K:=d.res;rw[F] at K;exact K),tQ⟩)
 |ok b9=>rw[G] at D F;exact AR (CY C C) (λw f d=>⟨(0,b9,_),f,(by rw[F]),⟨λz h=>(by rw[D] at h;cases h;exact⟨C,C,C,RX hw (FT hw L) (Ms hw _) (Cz hw Q) G⟩),λe h=>(by rw[D] at h;cases h)⟩,d.exm,(by have K:=d.res;rw[F] at K;exact K),tQ⟩)
 refine Aa 18 [1] (y<|λ_=>mkn 43 true C C h2<|Aa 7 [1,0] (y<|y<|λ_=>?_));obtain⟨n,L⟩:=Ew h2;refine P8 (XX:=λ_ _=>False) C C (eC RR C C) (λw f d=>(Ma w f d.vl sb mb s fr (10000-(k2:Int)) d.res ⟨(d.mi sb (.inl C)).2.1,(d.mi mb (.inr C)).2.1⟩ hne hw (Ap s t).num (by rw[L];exact FT hw L) (Ap s u) ga gc (Cz hw Q) d.f1).retP) (λ_=>(BC.stab (.inl C) (.inr C))) (λ_=>trivial) (λ_ _ _ _ _ h=>h.elim) ?_;rintro⟨⟩ -;refine Aa 6 [] (λ_=>?_)
 have D:Hg (k2+1) s t.one u.one=(match Cv s n (Ap s u) with|.error e=>.error e|.ok b=>.ok (k2,b)):=by
  rw[KC,L]
  cases hm:(Ap s u) with
  |var m=>simp only[KY];rw[if_neg (by have J:=h3;rw[hm] at J;cases J)];cases Cv s n (.var m) with|error e=>rfl|ok b=>cases k2 <;> rfl
  |con ty kb=>simp only[KY];cases Cv s n (.con ty kb) with|error e=>rfl|ok b=>cases k2 <;> rfl
 have U:(Ap s t).num=n:=by rw[L];rfl
 have F:JG s (Ap s t).num (Ap s u)=(match Cv s n (Ap s u) with|.error e=>(e,s)|.ok b=>(0,b)):=by rw[U];rfl
 cases G:Cv s n (Ap s u) with
 |error er=>rw[G] at D F;exact AR (CY C C) (λw f d=>⟨(er,s,_),f,(by rw[F]),⟨λz h=>(by rw[D] at h;cases h),λe h=>(by rw[D] at h;cases h;exact⟨C,Rr G⟩)⟩,d.exm,(by have K:=d.res;rw[F] at K;exact K),tQ⟩)
 |ok b9=>rw[G] at D F;exact AR (CY C C) (λw f d=>⟨(0,b9,_),f,(by rw[F]),⟨λz h=>(by rw[D] at h;cases h;exact⟨C,C,C,RX hw (FT hw L) (Ms hw _) (Cz hw Q) G⟩),λe h=>(by rw[D] at h;cases h)⟩,d.exm,(by have K:=d.res;rw[F] at K;exact K),tQ⟩)
 refine Aa 23 [1] (y<|λ_=>mkn 43 false C C h2<|Aa 9 [0] (y<|λ_=>AN 52 C C (λh5=>?_) (λh5=>?_)));refine Aa 7 [0,1] (y<|y<|λ_=>?_);obtain⟨n,L⟩:=Ew h5;refine P8 (XX:=λ_ _=>False) C C (eC RR C C) (λw f d=>(Ma w f d.vl sb mb s fr (10000-(k2:Int)) d.res ⟨(d.mi sb (.inl C)).2.1,(d.mi mb (.inr C)).2.1⟩ hne hw (Ap s u).num (by rw[L];exact FT hw L) (Ap s t) ha hc (Cz hw hbt) d.f0).retP) (λ_=>(BC.stab (.inl C) (.inr C))) (λ_=>trivial) (λ_ _ _ _ _ h=>h.elim) ?_;rintro⟨⟩ -;refine Aa 6 [] (λ_=>?_)
 have D:Hg (k2+1) s t.one u.one=(match Cv s n (Ap s t) with|.error e=>.error e|.ok b=>.ok (k2,b)):=by
  rw[KC,L];obtain⟨tx,ka,O⟩:=FM h2;rw[O];simp only[KY]
  cases Cv s n (.con tx ka) with|error e=>rfl|ok b=>cases k2 <;> rfl
 have U:(Ap s u).num=n:=by rw[L];rfl
 have F:JG s (Ap s u).num (Ap s t)=(match Cv s n (Ap s t) with|.error e=>(e,s)|.ok b=>(0,b)):=by rw[U];rfl
 cases G:Cv s n (Ap s t) with
 |error er=>rw[G] at D F;exact AR (CY C C) (λw f d=>⟨(er,s,_),f,(by rw[F]),⟨λz h=>(by rw[D] at h;cases h),λe h=>(by rw[D] at h;cases h;exact⟨C,Rr G⟩)⟩,d.exm,(by have K:=d.res;rw[F] at K;exact K),tQ⟩)
 |ok b9=>rw[G] at D F;exact AR (CY C C) (λw f d=>⟨(0,b9,_),f,(by rw[F]),⟨λz h=>(by rw[D] at h;cases h;exact⟨C,C,C,RX hw (FT hw L) (Ms hw _) (Cz hw hbt) G⟩),λe h=>(by rw[D] at h;cases h)⟩,d.exm,(by have K:=d.res;rw[F] at K;exact K),tQ⟩)
 refine Aa 9 [1,0] (y<|y<|λ_=>AN 67 C C (λh6=>?_) (λh6=>?_));refine Aa 20 [] (λ_=>?_);obtain⟨tx,ka,O⟩:=FM h2;obtain⟨ty,kb,Y⟩:=FM h5;have D:Hg (k2+1) s t.one u.one=.error 11:=by rw[KC,O,Y];simp only[KY];rw[if_pos (by have h8:=h6;rw[O,Y] at h8;simp only[T1.tx] at h8;rw[h8];rfl)]
 exact AR (CY C C) (λw f d=>⟨(11,s,_),f,C,⟨λz h=>(by rw[D] at h;cases h),λe h=>(by rw[D] at h;cases h;exact⟨C,dC⟩)⟩,d.exm,d.res,tQ⟩);refine Aa 11 [1,0] (y<|y<|λ_=>AN 61 C C (λK=>?_) (λK=>?_));refine Aa 9 [] (λ_=>?_);obtain⟨tx,ka,O⟩:=FM h2;obtain⟨ty,kb,Y⟩:=FM h5;have D:Hg (k2+1) s t.one u.one=.error 11:=by rw[KC,O,Y];simp only[KY];rw[if_pos (by have J:=K;rw[O,Y] at J;simp only[T1.kids] at J;rw[J];simp)]
 exact AR (CY C C) (λw f d=>⟨(11,s,_),f,C,⟨λz h=>(by rw[D] at h;cases h),λe h=>(by rw[D] at h;cases h;exact⟨C,dC⟩)⟩,d.exm,d.res,tQ⟩);refine Aa 6 [] (λ_=>?_);obtain⟨tx,ka,O⟩:=FM h2;obtain⟨ty,kb,Y⟩:=FM h5;have hlen:(Ap s t).kids.len=(Ap s u).kids.len:=by have J:(((Ap s t).kids.len:Int) != (Ap s u).kids.len)=false:=K;simp at J;omega
 have D:Hg (k2+1) s t.one u.one=Hg k2 s (Ap s t).kids (Ap s u).kids:=by rw[KC];rw[O,Y];simp only[KY,T1.kids];rw[if_neg (by have h8:=h6;have J:=K;rw[O,Y] at h8 J;simp only[T1.tx,T1.kids] at h8 J;rw[h8,J];simp),Ty.app_nil,Ty.app_nil]
 refine Aa 8 [1] (y<|λ_=>?_);refine FG (α:=Nat×Ty×Ty×Nat×BZ) (λx=>x.2.1.len) (λx=>x.1+x.2.1.len=(Ap s t).kids.len∧x.2.2.1.len=x.2.1.len∧Hg k2 s (Ap s t).kids (Ap s u).kids=Hg x.2.2.2.1 x.2.2.2.2 x.2.1 x.2.2.1∧x.2.2.2.1≤k2∧Jo x.2.2.2.2∧x.2.1.bnd∧x.2.2.1.bnd) (λx=>(E5 0 (pB sb) 4 (pB b1) 5 (pB b2) 78 (iV ((Ap s t).kids.len:Int)) 79 (iV (x.1:Int)))) (λx=>⟨MY sb mb,MY sb mb,BC 163 sb mb x.2.2.2.2 fr (10000-(x.2.2.2.1:Int)),w,f⟩) (λx=>[⟨b2,tC (Ap s u) ga gc,76,true⟩,⟨b1,tC (Ap s t) ha hc,76,true⟩]) (λx=>[]) (λx=>[]) (λx=>[λw f=>BN w f ha x.1 x.2.1,λw f=>BN w f ga x.1 x.2.2.1]) (0,(Ap s t).kids,(Ap s u).kids,k2,s) ⟨by simp,hlen.symm,C,Nat.le_refl _,hw,(Cz hw hbt).2,(Cz hw Q).2⟩ lE (λw f d=>d.more (B':=[]) (F':=[λw f=>BN w f ha 0 (Ap s t).kids,λw f=>BN w f ga 0 (Ap s u).kids]) nE (AI.mem ⟨Ak.at d.f0,Ak.at d.f1,tQ⟩) (Aw.mem ⟨BN.mono,BN.mono,tQ⟩) |>.less (H':=[⟨b2,tC (Ap s u) ga gc,76,true⟩,⟨b1,tC (Ap s t) ha hc,76,true⟩]) (R':=[]) (B':=[]) (F':=[λw f=>BN w f ha 0 (Ap s t).kids,λw f=>BN w f ga 0 (Ap s u).kids]) sR sR nE (mR [0,1])) ?_;rintro⟨i,r,q,j,s2⟩ ⟨hi,hq,hrun,hjk,hw2,hrb,hqb⟩;dsimp only at hi hq hrun hjk hw2 hrb hqb ⊢;refine Aa 6 [] (λ_=>AN 80 C C (λh8=>?_) (λh8=>?_));refine Aa 12 [] (λ_=>?_);have hil:i<(Ap s t).kids.len:=by have:=dT h8;omega
 obtain⟨t2,r,rfl⟩:=Ty.cases1 r oM;rw[T1.len_cons] at hi hq;obtain⟨u2,q,rfl⟩:=Ty.cases1 q oM;rw[T1.len_cons] at hq;refine Z8 0 C ?_;rintro⟨eb,eo,ea,ec⟩ rfl;refine Z8 3 C ?_;rintro⟨pb,po,pa,pc⟩ rfl;refine CF [0,1] Al (rd [0,1,2,3,4,5,6,7,8,9,10] (.br 11 (.rd 12 .fin) .fin)) C kR<|A2 11 [1,101,0,0,100,0] (y<|aI oM<|y2<|y<|aI oM<|y2<|λ_=>Ag C ?_ Aj);refine P8 (XX:=λ_ _=>False) C C (eC ZG C C) (λw f d=>(ih j oM w f d.vl sb mb s2 fr d.res ⟨(d.mi sb (.inl C)).2.1,(d.mi mb (.inr C)).2.1⟩ hne hw2 oM t2 u2 ea ec pa pc (T1.bnd_cons.1 hrb).1 (T1.bnd_cons.1 hqb).1 d.f2 d.f0).retP) (λ_=>(BC.stab (.inl C) (.inr C))) (λ_=>trivial) (λ_ _ _ _ _ h=>h.elim) ?_;rintro⟨cd,s3,pr3⟩ ⟨hok,herr⟩;refine Aa 1 [] (λ_=>Au [0,1] C<|A2 1 [] (λ_=>Bm<|Aa 7 [] (λ_=>AN 95 C C (λJ=>?_) (λJ=>?_))));obtain⟨er,her⟩:∃e,Hg j s2 t2.one u2.one=.error e:=by cases hx:Hg j s2 t2.one u2.one with|error e=>exact⟨e,C⟩|ok z=>have g9:=(hok z hx).1;rw[g9] at J;cases J
 refine Aa 10 [] (λ_=>Z0<|Aa 2 [] (λ_=>?_));have Z:Hg (k2+1) s t.one u.one=.error er:=by rw[D,hrun,SJ _ _ _ _ _ _ (by omega),her];rfl
 exact AR (CY C C) (λw f d=>⟨(cd,s3,pr3),f,C,⟨λz h=>(by rw[Z] at h;cases h),λe h=>(by rw[Z] at h;cases h;exact herr _ her)⟩,d.exm,d.res,tQ⟩);obtain⟨z,hz⟩:∃z,Hg j s2 t2.one u2.one=.ok z:=by cases hx:Hg j s2 t2.one u2.one with|ok z=>exact⟨z,C⟩|error e=>have g9:=herr e hx;have g8:cd=0:=(by simpa using J);exact absurd (g9.1.symm.trans g8) g9.2
 obtain⟨hz1,hz2,hz3,hz4⟩:=hok z hz;exact Aa 8 [] (aI ⟨oM,oM⟩<|λ_=>Df ((i+1,r,q,z.1,z.2)) (show r.len<(t2.cons r).len by rw[T1.len_cons];omega) ⟨show i+1+r.len=_ by omega,show q.len=r.len by omega,show Hg k2 s _ _=Hg z.1 z.2 r q by rw[hrun,SJ _ _ _ _ _ _ (by omega),hz];rfl,show z.1≤k2 by have:=Aa6 _ _ _ _ _ hz;omega,hz4,(T1.bnd_cons.1 hrb).2,(T1.bnd_cons.1 hqb).2⟩ lE (λw f d=>⟨_,by have hM2:=d.less (H':=[⟨b2,tC (Ap s u) (some ⟨pb,po,none⟩) gc,76,true⟩,⟨b1,tC (Ap s t) (some ⟨eb,eo,none⟩) hc,76,true⟩]) (R':=[]) (B':=[]) (F':=[λw f=>BN w f (some ⟨eb,eo,none⟩) (i+1) r,λw f=>BN w f (some ⟨pb,po,none⟩) (i+1) q]) sR sR nE (mR [3,1]);rw[hz2,hz3] at hM2;exact hM2⟩));refine Aa 3 [] (λ_=>Fh<|Aa 8 [] (λ_=>?_));obtain rfl:r=.nil:=Ty.len0 (by have:=dF h8;omega);have Z:Hg (k2+1) s t.one u.one=.ok (j,s2):=by rw[D,hrun];cases j <;> rfl
 exact AR (CY C C) (λw f d=>⟨(0,s2,_),f,C,⟨λz h=>(by rw[Z] at h;cases h;exact⟨C,C,C,hw2⟩),λe h=>(by rw[Z] at h;cases h)⟩,d.exm,d.res,tQ⟩)
theorem YG(k:Nat):qM prog 87 163 k:=Nat.strongRecOn k λk F w f G sb mb s fr J K d hw L t u a c a2 c2 h D O Q=>Zo k F w f G sb mb s fr J K d hw L t u a c a2 c2 h D O Q
theorem Wd(w:wO)(f:Fq)(U:Vl w f)(sb mb:Nat)(s:BZ)(fr pr:Int)(Y:BC 163 sb mb s fr pr w f)(Z:f sb=0∧f mb=0)(G:sb≠mb)(hw:Jo s)(t u:T1)(a:oA)(c:Nat)(a2:oA)(c2:Nat)(J:t.bnd)(K:u.bnd)(hT:Ak w f t.kids a c)(hU:Ak w f u.kids a2 c2) :
  Bq prog 59 #[pB sb,tV t a c,tV u a2 c2] w (Fg (α:=Int×BZ×Int) (λx=>iV x.1) (λx=>(∀b,G2 s t u=.ok b→x.1=0∧x.2.1=b∧Jo b)∧∀e,G2 s t u=.error e→x.1=e∧e≠0) (MY sb mb) (λx=>BC 163 sb mb x.2.1 fr x.2.2) (λ_=>[]) w f):=by
 refine Cw (X:=XS 163 sb mb s fr pr w f) (H:=[]) (R:=[]) (B:=[]) (Fs:=[λw f=>Ak w f t.kids a c,λw f=>Ak w f u.kids a2 c2]) (f:=f) func59 C C C (mA U Y Z ⟨hT,hU,tQ⟩ ⟨Ak.mono,Ak.mono,tQ⟩)<|Aa 22 [] (λb1=>λb2=>λ_=>Vx (b:=sb) (I':=BC 163 sb mb s fr (10000-((10000:Nat):Int))) C C C C Iw C C C (.inl C) (λw f h=>h.1) (λw f w2 h d Q hb=>⟨hb,let ⟨_,es,h2,h3⟩:=h;⟨es,h2.heap (Q.block mb (λe=>G e.symm)),G1.mono (Q.fle (d.mi sb (.inl C)).2.1) s es h3⟩⟩) (BC.stab (.inl C) (.inr C))<|Aa 3 [] (λ_=>CF [0,1] Al (rd [0,1,3] (.br 2 (.br 4 (.br 5 (.rd 6 .fin) .fin) .fin) .fin)) C kR<|A2 3 [1,0] (y<|y<|λ_=>Ag C ?_ Aj)));refine Bt C C (eC Rn C C) (λw f d=>OK w f d.vl t a c J d.f0) (λx=>⟨Ak.mono,tQ⟩) ?_;rintro⟨ha,hc⟩ -;refine Aa 1 [] (λ_=>Au [0,1] C<|Ag C ?_ Aj);refine Bt C C (eC Rn C C) (λw f d=>OK w f d.vl u a2 c2 K d.f2) (λx=>⟨Ak.mono,tQ⟩) ?_;rintro⟨ga,gc⟩ -;refine Aa 1 [] (λ_=>Au [0,1] C<|Ag C ?_ Aj);refine P8 (XX:=λ_ _=>False) C C (eC ZG C C) (λw f d=>(YG 10000 w f d.vl sb mb s fr d.res ⟨(d.mi sb (.inl C)).2.1,(d.mi mb (.inr C)).2.1⟩ G hw (Nat.le_refl _) t u ha hc ga gc J K d.f1 d.f0).retP) (λ_=>(BC.stab (.inl C) (.inr C))) (λ_=>trivial) (λ_ _ _ _ _ h=>h.elim) ?_;rintro⟨cd,s3,O⟩ ⟨F,L⟩;exact Aa 1 [] (λ_=>Au [0,1] C<|A2 1 [] (λ_=>Bm<|Aa 2 [] (λ_=>AR (CY C C) (λw f d=>⟨(cd,s3,O),f,C,⟨λb h=>(by rw[G2,T9] at h;cases D:Hg 10000 s t.one u.one with|error e=>rw[D] at h;cases h|ok z=>rw[D] at h;cases h;exact⟨(F z D).1,(F z D).2.1,(F z D).2.2.2⟩),λe h=>(by rw[G2,T9] at h;cases D:Hg 10000 s t.one u.one with|error e=>rw[D] at h;cases h;exact L _ D|ok z=>rw[D] at h;cases h)⟩,d.exm,d.res,tQ⟩))))
theorem TO(w:wO)(f:Fq)(h:Vl w f)  :
  Bq prog 61 #[.slice none 0 0] w (B3 (α:=Unit) (λ_=>.slice none 0 0) (λ_=>True) (λ_=>[]) w f):=by
 refine Cw (X:=X0 w f) (H:=[]) (R:=[]) (B:=[]) (Fs:=[]) (f:=f) func61 C C C (Ci h tQ tQ)<|Aa 12 [] (λ_=>AN 4 C C (λd=>?_) (λd=>?_));exact Aa 8 [] (λ_=>AR (CY C C) (λw f D=>⟨(),f,C,tQ,D.exm,tQ⟩))
 cases d
theorem Bo(w:wO)(f:Fq)(h:Vl w f)(tx:lU) :
  Bq prog 28 #[S tx,.slice none 0 0] w (B3 (α:=Unit) (λ_=>tV (.con tx .nil) none 0) (λ_=>True) (λ_=>[]) w f):=by
 refine Cw (X:=X0 w f) (H:=[]) (R:=[]) (B:=[]) (Fs:=[]) (f:=f) func28 C C C (Ci h tQ tQ)<|Aa 9 [] (λb1=>λ_=>Bt C C (eC bO C C) (λw f d=>TO w f d.vl) (λx=>trivial) ?_);rintro⟨⟩ -;exact Aa 5 [0] (y<|λ_=>AR (λw f d=>AE C (Ac C AW d.k0 C)) (λw f d=>⟨(),f,C,tQ,d.exm,tQ⟩))
theorem YR(k:Nat)(ih:∀j,j<k→qD prog 97 163 j)(w:wO)(f:Fq)(hv:Vl w f)(sb mb:Nat)(s:BZ)(fr pr:Int)(hS:BC 163 sb mb s fr pr w f)(hw:Jo s)(t:T1)(a:oA)(c jj:Nat)(hb:t.bnd)(hT:Ak w f t.kids a c)(G:B5 s k t.one=some jj) :
  Bq prog 97 #[pB sb,tV t a c] w (B3 (α:=oA×Nat) (λx=>tV (AO s k t.one).hd x.1 x.2) (λ_=>True) (λx=>[λw f=>Ak w f (AO s k t.one).hd.kids x.1 x.2]) w f):=by
 have hkb:=(Cz hw hb).1;refine Cw (X:=X0 w f) (H:=[]) (R:=[]) (B:=[]) (Fs:=[λw f=>Ak w f t.kids a c]) (f:=f) func97 C C C (Ci hv ⟨hT,tQ⟩ ⟨Ak.mono,tQ⟩)<|Aa 10 [1] (λb1=>λb2=>y<|λ_=>Bt C C (eC GU C C) (λw f d=>Ek w f d.vl sb mb s fr pr (BC.keep hS d.exm d.ent (λh=>h) (λh=>h)) hw t a c hb d.f0) (λx=>⟨Ak.mono,tQ⟩) ?_);rintro⟨ha,hc⟩ -;refine Aa 5 [1] (y<|λ_=>?_);obtain⟨k2,rfl⟩:∃q,k=q+1:=by cases k with|zero=>rw[Lh] at G;cases G|succ q=>exact⟨q,C⟩
 rw[Kh] at G;refine Aa 6 [1] (y<|λ_=>AN 13 C C (λh1=>?_) (λh1=>?_));refine Aa 5 [1] (y<|λ_=>Bt C C (eC Hx C C) (λw f d=>DV w f d.vl (Ap s t).num) (λx=>trivial) ?_);rintro⟨⟩ -;refine Aa 5 [0] (y<|λ_=>?_);obtain⟨n,hn⟩:=Ew h1;have D:(AO s (k2+1) t.one).hd=.var n:=by rw[O7,hn]
 exact AR (λw f d=>AE C (Ac C AW d.k0 C)) (λw f d=>⟨(none,0),f,(by rw[D,hn];rfl),tQ,d.exm,⟨by rw[D];exact Ak.nil _ _ _ _,tQ⟩⟩);refine Aa 7 [1] (y<|λ_=>Bt C C (eC Bu C C) (λw f d=>Bo w f d.vl (Ap s t).tx) (λx=>trivial) ?_);rintro⟨⟩ -;refine Aa 14 [0,2] (λb3=>y<|y<|λ_=>PA 76 4 ?_);refine FG (α:=Nat×Ty×Ty×lV×oA×Nat×Nat) (λx=>x.2.1.len) (λx=>x.1+x.2.1.len=(Ap s t).kids.len∧x.2.2.1.len=x.1∧AO s k2 (Ap s t).kids=x.2.2.1.app (AO s x.2.2.2.2.2.2 x.2.1)∧B5 s x.2.2.2.2.2.2 x.2.1=some jj∧x.2.2.2.2.2.2≤k2∧x.2.1.bnd) (λx=>(E7 0 (pB sb) 3 (pB b1) 4 (pB b2) 5 (pB b3) 21 (.slice ha (Ap s t).kids.len hc) 22 (iV ((Ap s t).kids.len:Int)) 23 (iV (x.1:Int)))) (λx=>X0 w f) (λx=>[⟨b3,[iV 1,iV 0,S (Ap s t).tx,.slice x.2.2.2.2.1 x.1 x.2.2.2.2.2.1],76,true⟩,⟨b2,zT,76,true⟩,⟨b1,tC (Ap s t) ha hc,76,true⟩]) (λx=>[⟨76,4,x.2.2.2.2.1,x.2.2.2.2.2.1,x.1,x.2.2.2.1⟩]) (λx=>[]) (λx=>[λw f=>BN w f ha x.1 x.2.1,λw f=>Bi w f x.2.2.1 x.2.2.2.1]) (0,(Ap s t).kids,.nil,[],none,0,k2) ⟨by simp,C,C,G,Nat.le_refl _,(Cz hw hb).2⟩ lE (λw f d=>d.more (B':=[]) (F':=[λw f=>BN w f ha 0 (Ap s t).kids,λw f=>Bi w f .nil []]) nE (AI.mem ⟨Ak.at d.f0,C,tQ⟩) (Aw.mem ⟨BN.mono,Bi.mono,tQ⟩) |>.less sR sR nE (mR [0,1])) ?_;rintro⟨i,r,dn,xs,ra,rc,j⟩ ⟨hi,J,Z,K,hjk,L⟩;dsimp only at hi J Z K hjk L ⊢;refine Aa 6 [] (λ_=>AN 24 C C (λh2=>?_) (λh2=>?_));refine Aa 6 [] (λ_=>?_);have hil:i<(Ap s t).kids.len:=by have:=dT h2;omega
 obtain⟨t2,r,rfl⟩:=Ty.cases1 r oM;rw[T1.len_cons] at hi;obtain⟨j2,F,O⟩:∃j2,B5 s j t2.one=some j2∧B5 s j2 r=some jj:=by rw[JL] at K;cases hx:B5 s j t2.one with|none=>rw[hx] at K;cases K|some q=>rw[hx] at K;exact⟨q,C,K⟩
 refine Z8 0 C ?_;rintro⟨eb,eo,ka,kc⟩ rfl;refine Aa 7 [100,0,0] (aI oM<|y2<|λb4=>y<|λ_=>CF [0,2,3] Al (rd [0,2,3] (.br 1 (.br 4 (.br 5 (.br 6 (.rd 7 (.br 8 .fin .fin)) .fin) .fin) .fin) (.br 4 (.br 1 (.br 5 (.br 6 (.rd 7 (.br 8 .fin .fin)) .fin) .fin) (.br 5 (.br 1 (.br 6 (.rd 7 (.br 8 .fin .fin)) .fin) .fin) .fin)) .fin))) C kR<|A2 3 [0] (y<|λ_=>Ag C ?_ ?_));refine Aa 2 [1] (y<|λ_=>Au [0,2,3] C<|Ag C ?_ Aj);refine Bt C C (eC US C C) (λw f d=>ih j oM w f d.vl sb mb s fr pr (BC.keep hS d.exm d.ent (λh=>h) (λh=>h)) hw t2 ka kc j2 (T1.bnd_cons.1 L).1 d.f0 F) (λx=>⟨Ak.mono,tQ⟩) ?_;rintro⟨a2,c2⟩ -;refine Aa 1 [] (λ_=>Au [0,2,3] C<|Ag C ?_ Aj);refine Aa 2 [] (λb5=>λ_=>Au [1,3,4] C<|Ag C ?_ Aj);refine Dq 0 0 C C Dl C C C C C C C C (λ_ _=>C) oM oM λQ U=>Aa 1 [] (λ_=>Au [1,3,4] C<|A2 1 [] (λ_=>Ag C ?_ Aj));exact Aa 2 [2] (y<|λ_=>Au [1,3,4] C<|Bm<|Aa 6 [] (aI ⟨oM,oM⟩<|λ_=>Df ((i+1,r,dn.snoc (AO s j t2.one).hd,xs++tC (AO s j t2.one).hd a2 c2,Q,U,j2)) (show r.len<(t2.cons r).len by rw[T1.len_cons];omega) ⟨show i+1+r.len=_ by omega,show (dn.snoc _).len=i+1 by rw[Ty.len_snoc,J],show AO s k2 _=(dn.snoc _).app (AO s j2 r) by rw[Z,Me F O,Ty.snoc_app],O,show j2≤k2 by have:=ES s _ _ _ F;omega,(T1.bnd_cons.1 L).2⟩ lE (λw f d=>⟨_,(d.more (B':=[]) (F':=[λw f=>Bi w f (dn.snoc (AO s j t2.one).hd) (xs++tC (AO s j t2.one).hd a2 c2)]) nE (AI.mem ⟨Bi.snoc d.f0 d.f4,tQ⟩) (Aw.mem ⟨Bi.mono,tQ⟩)).less (.cons _ (.cons _ sR)) sR nE (mR [3,0])⟩)));refine Ag C ?_ Aj;refine Bt C C (eC US C C) (λw f d=>ih j oM w f d.vl sb mb s fr pr (BC.keep hS d.exm d.ent (λh=>h) (λh=>h)) hw t2 ka kc j2 (T1.bnd_cons.1 L).1 d.f0 F) (λx=>⟨Ak.mono,tQ⟩) ?_;rintro⟨a2,c2⟩ -;refine Aa 1 [] (λ_=>Au [0,2,3] C<|Ag C ?_ ?_);refine Aa 2 [1] (y<|λ_=>Au [0,2,3] C<|Ag C ?_ Aj);refine Aa 2 [] (λb6=>λ_=>Au [1,3,4] C<|Ag C ?_ Aj);refine Dq 0 0 C C Dl C C C C C C C C (λ_ _=>C) oM oM λQ U=>Aa 1 [] (λ_=>Au [1,3,4] C<|A2 1 [] (λ_=>Ag C ?_ Aj));exact Aa 2 [2] (y<|λ_=>Au [1,3,4] C<|Bm<|Aa 6 [] (aI ⟨oM,oM⟩<|λ_=>Df ((i+1,r,dn.snoc (AO s j t2.one).hd,xs++tC (AO s j t2.one).hd a2 c2,Q,U,j2)) (show r.len<(t2.cons r).len by rw[T1.len_cons];omega) ⟨show i+1+r.len=_ by omega,show (dn.snoc _).len=i+1 by rw[Ty.len_snoc,J],show AO s k2 _=(dn.snoc _).app (AO s j2 r) by rw[Z,Me F O,Ty.snoc_app],O,show j2≤k2 by have:=ES s _ _ _ F;omega,(T1.bnd_cons.1 L).2⟩ lE (λw f d=>⟨_,(d.more (B':=[]) (F':=[λw f=>Bi w f (dn.snoc (AO s j t2.one).hd) (xs++tC (AO s j t2.one).hd a2 c2)]) nE (AI.mem ⟨Bi.snoc d.f0 d.f4,tQ⟩) (Aw.mem ⟨Bi.mono,tQ⟩)).less (.cons _ (.cons _ sR)) sR nE (mR [3,0])⟩)));refine Ag C ?_ Aj;refine Aa 2 [] (λb7=>λ_=>Au [1,3,4] C<|Ag C ?_ Aj);refine Aa 2 [2] (y<|λ_=>Au [1,3,4] C<|Ag C ?_ Aj)
 refine Dq 0 0 C C Dl C C C C C C C C (λ_ _=>C) oM oM λQ U=>Aa 1 [] (λ_=>Au [1,3,4] C<|A2 1 [] (λ_=>Ag C ?_ Aj));exact Aa 2 [2] (y<|λ_=>Au [1,3,4] C<|Bm<|Aa 6 [] (aI ⟨oM,oM⟩<|λ_=>Df ((i+1,r,dn.snoc (AO s j t2.one).hd,xs++tC (AO s j t2.one).hd a2 c2,Q,U,j2)) (show r.len<(t2.cons r).len by rw[T1.len_cons];omega) ⟨show i+1+r.len=_ by omega,show (dn.snoc _).len=i+1 by rw[Ty.len_snoc,J],show AO s k2 _=(dn.snoc _).app (AO s j2 r) by rw[Z,Me F O,Ty.snoc_app],O,show j2≤k2 by have:=ES s _ _ _ F;omega,(T1.bnd_cons.1 L).2⟩ lE (λw f d=>⟨_,(d.more (B':=[]) (F':=[λw f=>Bi w f (dn.snoc (AO s j t2.one).hd) (xs++tC (AO s j t2.one).hd a2 c2)]) nE (AI.mem ⟨Bi.snoc d.f0 d.f4,tQ⟩) (Aw.mem ⟨Bi.mono,tQ⟩)).less (.cons _ (.cons _ sR)) sR nE (mR [3,0])⟩)));refine Aa 3 [] (λ_=>Fh<|Aa 9 [0,1] (y<|y<|λ_=>?_));obtain rfl:r=.nil:=Ty.len0 (by have:=dF h2;omega);rw[Hs,Ty.app_nil] at Z;obtain⟨tx,ka,Y⟩:=FM h1;have D:(AO s (k2+1) t.one).hd=.con tx dn:=by rw[O7,Y,← Z,Y];rfl
 have htx:(Ap s t).tx=tx:=by rw[Y];rfl
 rcases Nat.eq_zero_or_pos dn.len with h0|h0
 · exact AR (λw f d=>AE C (Ac C AW d.k1 C)) (λw f d=>⟨(ra,rc),f,(by rw[D,htx,← J];rfl),tQ,d.exm,⟨by rw[D];obtain rfl:=Ty.len0 h0;exact Ak.nil _ _ _ _,tQ⟩⟩)
 · exact AR (λw f d=>AE C (Ac C AW d.k1 C)) (λw f d=>let ⟨f2,hM2,hF⟩:=Pu d d.f1 h0;⟨(ra,rc),f2,(by rw[D,htx,← J];rfl),tQ,hM2.exm,⟨by rw[D];exact hF,tQ⟩⟩)
theorem VL(k:Nat):qD prog 97 163 k:=Nat.strongRecOn k λk d w f h sb mb s fr pr D hw t a c j F G J=>YR k d w f h sb mb s fr pr D hw t a c j F G J
theorem JX(w:wO)(f:Fq)(L:Vl w f)(sb mb:Nat)(s:BZ)(fr pr:Int)(G:BC 163 sb mb s fr pr w f)(hw:Jo s)(t:T1)(a:oA)(c:Nat)(J:t.bnd)(O:Ak w f t.kids a c) :
  Bq prog 69 #[pB sb,tV t a c] w (B3 (α:=oA×Nat) (λx=>.tuple #[tV ((CX s t).getD (.var 0)) x.1 x.2,iV (if (CX s t).isSome then 0 else 4)]) (λ_=>True) (λx=>[λw f=>Ak w f ((CX s t).getD (.var 0)).kids x.1 x.2]) w f):=by
 refine Cw (X:=X0 w f) (H:=[]) (R:=[]) (B:=[]) (Fs:=[λw f=>Ak w f t.kids a c]) (f:=f) func69 C C C (Ci L ⟨O,tQ⟩ ⟨Ak.mono,tQ⟩)<|Aa 21 [1] (λb1=>λb2=>y<|λ_=>Bt C C (eC iG C C) (λw f d=>Pt w f d.vl sb mb s fr pr (BC.keep G d.exm d.ent (λh=>h) (λh=>h)) hw t a c J d.f0) (λx=>trivial) ?_);rintro⟨⟩ -;refine Aa 4 [] (λ_=>AN 10 C C (λD=>?_) (λD=>?_));replace D:=FE D;refine Aa 11 [0] (y<|λ_=>?_);have F:CX s t=none:=by rw[CX,D];rfl
 exact AR (λw f d=>Cn C (Ac C AW d.k0 C) (Ah C)) (λw f d=>⟨(none,0),f,(by rw[F];rfl),tQ,d.exm,⟨by rw[F];exact Ak.nil _ _ _ _,tQ⟩⟩);replace D:=FO D;refine Aa 8 [1] (y<|λ_=>?_);obtain⟨j,Q⟩:∃j,B5 s 1000 t.one=some j:=by have K:=D;rw[HZ,FL] at K;exact Option.isSome_iff_exists.1 K
 refine Bt C C (eC US C C) (λw f d=>VL 1000 w f d.vl sb mb s fr pr (BC.keep G d.exm d.ent (λh=>h) (λh=>h)) hw t a c j J d.f0 Q) (λx=>⟨Ak.mono,tQ⟩) ?_;rintro⟨a2,c2⟩ -;refine Aa 5 [0] (y<|λ_=>?_);have F:CX s t=some (AO s 1000 t.one).hd:=by rw[CX,if_pos D]
 exact AR (λw f d=>Cn C (Ac C AW d.k0 C) (Ah C)) (λw f d=>⟨(a2,c2),f,(by rw[F];rfl),tQ,d.exm,⟨by rw[F];exact d.f0,tQ⟩⟩)
theorem Zd(m:Nat)(ih:pM prog 55 m)(w:wO)(f:Fq)(hv:Vl w f)(l:List Int)(K:oA)(lc:Nat)(h:Ty)(L:oA)(Z:Nat)(hl:l.length≤1000000)(hyl:h.len≤200000)(hyb:h.bnd)(hI:B9 w f l K lc)(hY:Ak w f h L Z)(t:T1)(a:oA)(c:Nat)(hm:t.kids.size<m+1)(J:t.bnd)(hT:Ak w f t.kids a c) :
  Bq prog 55 #[tV t a c,.slice K l.length lc,.slice L h.len Z] w (B3 (α:=oA×Nat) (λx=>tV (Cu t l h) x.1 x.2) (λ_=>True) (λx=>[λw f=>Ak w f (Cu t l h).kids x.1 x.2]) w f):=by
 have hbl:=J.1;refine Cw (X:=X0 w f) (H:=[]) (R:=[]) (B:=[]) (Fs:=[λw f=>Ak w f t.kids a c,λw f=>B9 w f l K lc,λw f=>Ak w f h L Z]) (f:=f) func55 C C C (Ci hv ⟨hT,hI,hY,tQ⟩ ⟨Ak.mono,B9.mono,Ak.mono,tQ⟩)<|Aa 14 [1] (λb1=>λb2=>y<|λ_=>AN 13 C C (λO=>?_) (λO=>?_));refine Aa 7 [1] (y<|λ_=>Bt C C (eC gO C C) (λw f d=>MG w f d.vl l K lc t.num hl d.f1) (λx=>trivial) ?_);rintro⟨⟩ -;refine Aa 8 [] (λ_=>AN 20 C C (λh2=>?_) (λh2=>?_));refine Aa 7 [] (λ_=>AN 25 C C (λh3=>?_) (λh3=>?_));refine Aa 2 [] (λ_=>?_);obtain⟨i,hix⟩:∃i,DD l t.num=some i:=by cases hx:DD l t.num with|some i=>exact⟨i,C⟩|none=>have G:=dT h2;simp only[Z5,hx] at G;omega
 have F:Z5 l t.num=i:=by rw[Z5,hix]
 obtain⟨t2,Q⟩:=VF (k:=h) (i:=i) (by have G:=dT h3;rw[F] at G;omega);refine KU (α:=Nat×Nat×oA×Nat) (λx=>L=some ⟨x.1,x.2.1,none⟩) (λx=>[⟨x.1,x.2.1+i*4,tC t2 x.2.2.1 x.2.2.2⟩]) (λx=>[λw f=>Ak w f t2.kids x.2.2.1 x.2.2.2]) (λw f d=>let ⟨b,off,ka,kc,O,h2,h3⟩:=Ak.nth d.f2 Q;⟨(b,off,ka,kc),O,(oE h2),AI.mem ⟨h3,tQ⟩⟩) (λx=>Aw.mem ⟨Ak.mono,tQ⟩) ?_;rintro⟨eb,eo,ka,kc⟩ rfl;have hil:i<h.len:=by have G:=dT h3;rw[F] at G;omega
 rw[F];refine Aa 5 [100,0] (aI oM<|y2<|λ_=>Bt C C (eC Rn C C) (λw f d=>OK w f d.vl t2 ka kc (HQ hyb Q) d.f0) (λx=>⟨Ak.mono,tQ⟩) ?_);rintro⟨a2,c2⟩ -;refine Aa 6 [0] (y<|λ_=>?_);obtain⟨n,rfl⟩:=Ew O;have D:Cu (.var n) l h=t2:=by rw[Oh,show DD l n=some i from hix];show (h.get i).getD _=t2;rw[Q];rfl
 exact AR (λw f d=>AE C (Ac C AW d.k0 C)) (λw f d=>⟨(a2,c2),f,(by rw[D]),tQ,d.exm,⟨by rw[D];exact d.f0,tQ⟩⟩);refine Aa 11 [1,0] (y<|y<|λ_=>?_);obtain⟨n,rfl⟩:=Ew O
 have D:Cu (.var n) l h=.var n:=by
  rw[Oh]
  cases hx:DD l n with
  |none=>rfl
  |some i=>show (h.get i).getD _=_;rw[eM (by have G:=dF h3;rw[show Z5 l (T1.num (.var n))=i by simp only[T1.num,Z5,hx]] at G;omega)];rfl
 exact AR (λw f d=>AE C (Ac C AW d.k0 C)) (λw f d=>⟨(a,c),f,(by rw[D]),tQ,d.exm,⟨by rw[D];exact Ak.mono _ _ _ _ hT d.ent,tQ⟩⟩);refine Aa 18 [1,0] (y<|y<|λ_=>?_);obtain⟨n,rfl⟩:=Ew O
 have D:Cu (.var n) l h=.var n:=by
  rw[Oh]
  cases hx:DD l n with
  |none=>rfl
  |some i=>have G:=dF h2;rw[show Z5 l (T1.num (.var n))=i by simp only[T1.num,Z5,hx]] at G;omega
 exact AR (λw f d=>AE C (Ac C AW d.k0 C)) (λw f d=>⟨(a,c),f,(by rw[D]),tQ,d.exm,⟨by rw[D];exact Ak.mono _ _ _ _ hT d.ent,tQ⟩⟩);refine Aa 8 [1] (y<|λ_=>mmk C C Dl C C C C (by have:=J.1;omega) (by have:=J.1;unfold maxLen;omega) λU=>Aa 13 [1] (y<|λ_=>?_));refine FG (α:=Nat×Ty×Ty×lV) (λx=>x.2.1.len) (λx=>x.1+x.2.1.len=t.kids.len∧x.2.2.1.len=x.1∧DF l h t.kids=x.2.2.1.app (DF l h x.2.1)∧x.2.1.bnd∧x.2.1.size≤t.kids.size) (λx=>(E8 1 (.slice K l.length lc) 2 (.slice L h.len Z) 3 (pB b1) 6 (pB b2) 8 (.slice (some ⟨U,0,none⟩) t.kids.len t.kids.len) 37 (.slice a t.kids.len c) 38 (iV (t.kids.len:Int)) 39 (iV (x.1:Int)))) (λx=>X0 w f) (λx=>[⟨b2,zT,76,true⟩,⟨b1,tC t a c,76,true⟩]) (λx=>[⟨76,4,some ⟨U,0,none⟩,t.kids.len,t.kids.len,x.2.2.2++Gv x.2.1.len zT⟩]) (λx=>[]) (λx=>[λw f=>BN w f a x.1 x.2.1,λw f=>Bi w f x.2.2.1 x.2.2.2,λw f=>B9 w f l K lc,λw f=>Ak w f h L Z]) (0,t.kids,.nil,[]) ⟨by simp,C,C,J.2,Nat.le_refl _⟩ lE (λw f d=>d.more (B':=[]) (F':=[λw f=>BN w f a 0 t.kids,λw f=>Bi w f .nil []]) nE (AI.mem ⟨Ak.at d.f0,C,tQ⟩) (Aw.mem ⟨BN.mono,Bi.mono,tQ⟩) |>.less sR sR nE (mR [0,1,3,4])) ?_;rintro⟨i,r,dn,xs⟩ ⟨hi,Y,hk,hb,hs⟩;dsimp only at hi Y hk hb hs ⊢;refine Aa 6 [] (λ_=>AN 40 C C (λh4=>?_) (λh4=>?_));refine Aa 6 [] (λ_=>?_);have hil:i<t.kids.len:=by have:=dT h4;omega
 obtain⟨t2,r,rfl⟩:=Ty.cases1 r oM;rw[T1.len_cons] at hi;refine Z8 0 C ?_;rintro⟨eb,eo,ka,kc⟩ rfl;refine Aa 15 [100,0,0,0] (aI oM<|y2<|λb3=>y<|y<|λ_=>Bt C C (eC Dv C C) (λw f d=>ih w f d.vl l K lc h L Z hl hyl hyb d.f4 d.f5 t2 ka kc (by have:=T1.size_cons t2 r;omega) (T1.bnd_cons.1 hb).1 d.f0) (λx=>⟨Ak.mono,tQ⟩) ?_);rintro⟨a2,c2⟩ -;refine Aa 1 [] (aI oM<|λ_=>Jf (λw f d=>Bi.len d.f4) λhxl=>?_);rw[Y] at hxl;exact mrs 0 ((xs++tC (Cu t2 l h) a2 c2)++Gv r.len zT) C C C C AW C C C (by simp only[Nat.zero_add,List.length_cons,List.length_nil,Int.toNat_natCast];omega) (by rw[Nat.zero_add,Int.toNat_natCast,← hxl,T1.len_cons,Gv];exact SN _ _ _ _ C) C<|Aa 7 [] (aI ⟨oM,oM⟩<|λ_=>Df ((i+1,r,dn.snoc (Cu t2 l h),xs++tC (Cu t2 l h) a2 c2)) (show r.len<(t2.cons r).len by rw[T1.len_cons];omega) ⟨show i+1+r.len=t.kids.len by omega,show (dn.snoc _).len=i+1 by rw[Ty.len_snoc,Y],show DF l h t.kids=(dn.snoc _).app (DF l h r) by rw[hk,PL,Ty.snoc_app],(T1.bnd_cons.1 hb).2,show r.size≤t.kids.size by have:=T1.size_cons t2 r;omega⟩ lE (λw f d=>⟨_,(d.more (B':=[]) (F':=[λw f=>Bi w f (dn.snoc (Cu t2 l h)) (xs++tC (Cu t2 l h) a2 c2)]) nE (AI.mem ⟨Bi.snoc d.f0 d.f4,tQ⟩) (Aw.mem ⟨Bi.mono,tQ⟩)).less (.cons _ sR) sR nE (mR [3,0,6,7])⟩));refine Aa 3 [] (λ_=>Fh<|Aa 3 [] (λ_=>?_));obtain rfl:r=.nil:=Ty.len0 (by have:=dF h4;omega);rw[show DF l h .nil=.nil from C,Ty.app_nil] at hk;refine pW 0 C C<|Aa 13 [1,1,0] (y<|y<|y<|λ_=>?_);obtain⟨tx,kk,rfl⟩:=FM O;have D:Cu (.con tx kk) l h=.con tx dn:=by rw[dW];exact congrArg _ hk
 have hdk:dn.len=kk.len:=by have G:i+0=kk.len:=hi;omega
 exact AR (λw f d=>AE C (Ac C AW d.k0 C)) (λw f d=>⟨(some ⟨U,0,none⟩,kk.len),f,(by rw[D];show _=Value.agg #[_,_,_,.slice _ dn.len _];rw[hdk];rfl),tQ,d.exm,⟨by rw[D];exact Bi.toF d.f1 (by have:=d.b0;simpa[Gv,Ty.len] using this) (Nat.le_of_eq hdk),tQ⟩⟩)
theorem B8(w:wO)(f:Fq)(J:Vl w f)(l:List Int)(D:oA)(lc:Nat)(d:Ty)(F:oA)(G:Nat)(O:l.length≤1000000)(K:d.len≤200000)(L:d.bnd)(Q:B9 w f l D lc)(U:Ak w f d F G)(t:T1)(a:oA)(c:Nat)(Y:t.bnd)(Z:Ak w f t.kids a c) :
  Bq prog 55 #[tV t a c,.slice D l.length lc,.slice F d.len G] w (B3 (α:=oA×Nat) (λx=>tV (Cu t l d) x.1 x.2) (λ_=>True) (λx=>[λw f=>Ak w f (Cu t l d).kids x.1 x.2]) w f) :=
 Nq (p:=pM prog 55) (λw f J l D lc d F G _ _ _ _ _ t a c h=>by omega) (λm ih w f J l D lc d F G h1 h2 h3 h4 h5 t a c h6 h7 h8=>Zd m ih w f J l D lc d F G h1 h2 h3 h4 h5 t a c h6 h7 h8) (t.kids.size+1) w f J l D lc d F G O K L Q U t a c (Nat.lt_succ_self _) Y Z
theorem Yd(m:Nat)(ih:pK prog 93 54 m)(w:wO)(f:Fq)(hv:Vl w f)(ob mb:Nat)(oa:oA)(oc:Nat)(l:List Int)(hV:Rj 54 ob mb oa oc l w f)(hf:∀b,Nu ob mb oa b→f b=0)(t:T1)(a:oA)(c:Nat)(hm:t.kids.size<m+1)(hsz0:t.kids.size+1+l.length≤1000000)(Q:t.bnd)(hT:Ak w f t.kids a c) :
  Bq prog 93 #[tV t a c,.map (some mb),pB ob] w (KB (α:=oA×Nat) (λ_=>.tuple #[]) (λ_=>True) (Nu ob mb oa) (λx=>Nu ob mb x.1) (λx=>Rj 54 ob mb x.1 x.2 (CM t.one l)) (λ_=>[]) w f):=by
 have hbl:=Q.1;refine Cw (X:=⟨Nu ob mb oa,Nu ob mb oa,Rj 54 ob mb oa oc l,w,f⟩) (H:=[]) (R:=[]) (B:=[]) (Fs:=[λw f=>Ak w f t.kids a c]) (f:=f) func93 C C C (Te (M:=Nu ob mb oa) hv hV Ea.stab (λb G=>⟨hV.lt G,hf b G⟩) ⟨hT,tQ⟩ ⟨Ak.mono,tQ⟩)<|Aa 13 [0] (λb1=>y<|λ_=>AN 10 C C (λJ=>?_) (λJ=>?_));refine Aa 7 [0] (y<|λ_=>Dn C C (λw f d=>M8 (K:=Fi) (a:=t.num) C C NN PB jW d.res.map (Lr d.res.nd) (X5 t.num l))<|Aa 3 [] (λ_=>AN 15 C C (λD=>?_) (λD=>?_)));replace D:=FE D;refine Aa 6 [0] (y<|λ_=>cN (K:=Fi) (a:=t.num) (l:=HM l) (I':=Ea 54 ob mb (.slice oa l.length oc) (l++[t.num]) oa oc l) C C C C NN PB (.inr (.inl C)) (Lr hV.nd) (X8 D) (λw f h=>h.map) (λw f w2 h d U hm=>Ea.mapped h U hm D) Ea.stab<|Aa 2 [] (λ_=>CF [0] Al (rd [0,1,2,4,5] (.br 3 (.br 6 (.br 7 (.rd 8 (.br 9 .fin .fin)) .fin) .fin) (.br 6 (.br 3 (.br 7 (.rd 8 (.br 9 .fin .fin)) .fin) .fin) .fin))) C kR<|A2 5 [0] (y<|λ_=>Ag C ?_ ?_)));refine Dn C C (λw f d=>Ai C PR d.res.blk C)<|Aa 1 [] (λ_=>Au [0] C<|Ag C ?_ Aj);refine Aa 2 [] (λb2=>λ_=>Au [1] C<|Ag C ?_ Aj);refine NG (MI':=Nu ob mb) (I':=λa' c'=>Ea 54 ob mb (.slice oa l.length oc) (l++[t.num]) a' c' (l++[t.num])) 0 C C MB C C C C C C C oM oM (λw f h=>h.row) (λb h=>.inr (.inr h)) (λ_ _ h=>Nu.or h) (λw f w2 a2 c2 h d hr hG=>Ea.app h hr hG) (λ_ _=>Ea.stab) λa2 c2=>Aa 1 [] (λ_=>Au [1] C<|A2 1 [] (λ_=>Ag C ?_ Aj));refine Vx (b:=ob) (I':=Ea 54 ob mb (.slice a2 (l.length+1) c2) (l++[t.num]) a2 c2 (l++[t.num])) C C C C PR C C C (.inl C) (λw f h=>h.blk) (λw f w2 h d U G=>Ea.store h U G) Ea.stab<|Aa 1 [] (λ_=>Au [1] C<|Bm<|Aa 3 [] (λ_=>?_));obtain⟨n,rfl⟩:=Ew J;have F:CM (T1.var n).one l=l++[n]:=by rw[OY,if_neg (by rw[show l.contains n=false from D];decide)]
 exact AR (λw f d=>DL C) (λw f d=>⟨(a2,c2),f,C,tQ,d.exm,(λb G=>let ⟨J,D,L⟩:=d.mi b G;L.elim (λh=>.inr ⟨h,J,D⟩) .inl),(by rw[F];have Y:=d.res;rw[show l.length+1=(l++[n]).length by simp] at Y;exact Y),tQ⟩);refine Ag C ?_ Aj;refine Aa 2 [] (λb3=>λ_=>Au [1] C<|Ag C ?_ Aj);refine Dn C C (λw f d=>Ai C PR d.res.blk C)<|Aa 1 [] (λ_=>Au [1] C<|Ag C ?_ Aj);refine NG (MI':=Nu ob mb) (I':=λa' c'=>Ea 54 ob mb (.slice oa l.length oc) (l++[t.num]) a' c' (l++[t.num])) 0 C C MB C C C C C C C oM oM (λw f h=>h.row) (λb h=>.inr (.inr h)) (λ_ _ h=>Nu.or h) (λw f w2 a2 c2 h d hr hG=>Ea.app h hr hG) (λ_ _=>Ea.stab) λa2 c2=>Aa 1 [] (λ_=>Au [1] C<|A2 1 [] (λ_=>Ag C ?_ Aj));refine Vx (b:=ob) (I':=Ea 54 ob mb (.slice a2 (l.length+1) c2) (l++[t.num]) a2 c2 (l++[t.num])) C C C C PR C C C (.inl C) (λw f h=>h.blk) (λw f w2 h d U G=>Ea.store h U G) Ea.stab<|Aa 1 [] (λ_=>Au [1] C<|Bm<|Aa 3 [] (λ_=>?_));obtain⟨n,rfl⟩:=Ew J;have F:CM (T1.var n).one l=l++[n]:=by rw[OY,if_neg (by rw[show l.contains n=false from D];decide)]
 exact AR (λw f d=>DL C) (λw f d=>⟨(a2,c2),f,C,tQ,d.exm,(λb G=>let ⟨J,D,L⟩:=d.mi b G;L.elim (λh=>.inr ⟨h,J,D⟩) .inl),(by rw[F];have Y:=d.res;rw[show l.length+1=(l++[n]).length by simp] at Y;exact Y),tQ⟩);replace D:=FO D;refine Aa 5 [] (λ_=>?_);obtain⟨n,rfl⟩:=Ew J;have F:CM (T1.var n).one l=l:=by rw[OY];exact if_pos D
 exact AR (λw f d=>DL C) (λw f d=>⟨(oa,oc),f,C,tQ,d.exm,(λb G=>let ⟨J,D,L⟩:=d.mi b G;L.elim (λh=>.inr ⟨h,J,D⟩) .inl),(by rw[F];exact d.res),tQ⟩);refine Aa 12 [0] (y<|λ_=>?_);refine FG (α:=Nat×Ty×List Int×oA×Nat) (λx=>x.2.1.len) (λx=>x.1+x.2.1.len=t.kids.len∧CM t.kids l=CM x.2.1 x.2.2.1∧x.2.1.bnd∧x.2.1.size+x.2.2.1.length≤1000000∧x.2.1.size≤t.kids.size) (λx=>(E6 1 (.map (some mb)) 2 (pB ob) 3 (pB b1) 29 (.slice a t.kids.len c) 30 (iV (t.kids.len:Int)) 31 (iV (x.1:Int)))) (λx=>⟨Nu ob mb oa,Nu ob mb x.2.2.2.1,Rj 54 ob mb x.2.2.2.1 x.2.2.2.2 x.2.2.1,w,f⟩) (λx=>[⟨b1,tC t a c,76,true⟩]) (λx=>[]) (λx=>[]) (λx=>[λw f=>BN w f a x.1 x.2.1]) (0,t.kids,l,oa,oc) ⟨by simp,C,Q.2,(by show t.kids.size+l.length≤1000000;omega),Nat.le_refl _⟩ lE (λw f d=>d.more (B':=[]) (F':=[λw f=>BN w f a 0 t.kids]) nE (AI.mem ⟨Ak.at d.f0,tQ⟩) (Aw.mem ⟨BN.mono,tQ⟩) |>.less sR sR nE (mR [0])) ?_;rintro⟨i,r,l2,Z,oc2⟩ ⟨hi,hk,O,hsz,hs⟩;dsimp only at hi hk O hsz hs ⊢;refine Aa 6 [] (λ_=>AN 32 C C (λL=>?_) (λL=>?_));refine Aa 6 [] (λ_=>?_);have hil:i<t.kids.len:=by have:=dT L;omega
 obtain⟨t2,r,rfl⟩:=Ty.cases1 r oM;rw[T1.len_cons] at hi;refine Z8 0 C ?_;rintro⟨eb,eo,ka,kc⟩ rfl;refine Aa 11 [100,0,0,0] (aI oM<|y2<|λb4=>y<|y<|λ_=>Wf (XX:=λ_ _=>False) C C (eC ZI C C) (λw f d=>(ih w f d.vl ob mb Z oc2 l2 d.res d.mz t2 ka kc (by have:=T1.size_cons t2 r;omega) (by have:=T1.size_cons t2 r;omega) (T1.bnd_cons.1 O).1 d.f0).retP) (λ_=>Ea.stab) (λ_=>trivial) (λ_ _ _ _ _ h=>h.elim) ?_);rintro⟨oa3,oc3⟩ -;exact Aa 7 [] (aI ⟨oM,oM⟩<|λ_=>Df ((i+1,r,CM t2.one l2,oa3,oc3)) (show r.len<(t2.cons r).len by rw[T1.len_cons];omega) ⟨show i+1+r.len=t.kids.len by omega,show CM t.kids l=CM r (CM t2.one l2) by rw[hk,Zu],(T1.bnd_cons.1 O).2,show r.size+(CM t2.one l2).length≤1000000 by have J:=T1.size_cons t2 r;have D:=JD t2.one l2;have L:t2.one.size=t2.kids.size+0+1:=T1.size_cons t2 .nil;omega,show r.size≤t.kids.size by have:=T1.size_cons t2 r;omega⟩ lE (λw f d=>⟨_,d.less (.cons _ sR) sR nE (mR [1])⟩));refine Aa 3 [] (λ_=>Fh<|Aa 1 [] (λ_=>?_));obtain rfl:r=.nil:=Ty.len0 (by have:=dF L;omega);obtain⟨tx,kk,rfl⟩:=FM J;have F:CM (T1.con tx kk).one l=l2:=by rw[cM];exact hk
 exact mJ (λw f d=>DL C) (λw f d=>⟨(Z,oc2),f,C,tQ,d.exm,(λb G=>let ⟨J,D,L⟩:=d.mi b G;L.elim (λh=>.inr ⟨h,J,D⟩) .inl),(by rw[F];exact d.res),tQ⟩)
theorem Zn(w:wO)(f:Fq)(F:Vl w f)(ob mb:Nat)(a:oA)(c:Nat)(l:List Int)(J:Rj 54 ob mb a c l w f)(K:∀b,Nu ob mb a b→f b=0)(t:T1)(d:oA)(D:Nat)(G:t.kids.size+1+l.length≤1000000)(L:t.bnd)(O:Ak w f t.kids d D) :
  Bq prog 93 #[tV t d D,.map (some mb),pB ob] w (KB (α:=oA×Nat) (λ_=>.tuple #[]) (λ_=>True) (Nu ob mb a) (λx=>Nu ob mb x.1) (λx=>Rj 54 ob mb x.1 x.2 (CM t.one l)) (λ_=>[]) w f) :=
 Nq (p:=pK prog 93 54) (λw f F ob mb a c l _ _ t d D h=>by omega) (λm Q w f F ob mb a c l U Y t d D Z h4 h5 h6=>Yd m Q w f F ob mb a c l U Y t d D Z h4 h5 h6) (t.kids.size+1) w f F ob mb a c l J K t d D (Nat.lt_succ_self _) G L O
theorem Hb(w:wO)(f:Fq)(Z:Vl w f)(t:T1)(a:oA)(c:Nat)(F:t.kids.size+1≤1000000)(D:t.bnd)(hT:Ak w f t.kids a c) :
  Bq prog 63 #[tV t a c] w (B3 (α:=oA×Nat) (λx=>.slice x.1 (Aq t).length x.2) (λ_=>True) (λx=>[λw f=>B9 w f (Aq t) x.1 x.2]) w f):=by
 refine Cw (X:=X0 w f) (H:=[]) (R:=[]) (B:=[]) (Fs:=[λw f=>Ak w f t.kids a c]) (f:=f) func63 C C C (Ci Z ⟨hT,tQ⟩ ⟨Ak.mono,tQ⟩)<|Aa 14 [1] (λb1=>λb2=>y<|λ_=>yJ (K:=Fi) C C λm1=>yE 0 C C<|Jf (λw f d=>(λe=>(by have Y:=d.res.1.2.lt;have G:=d.res.2;subst e;obtain⟨es,c,J,_⟩:=d.res.1.2;have L:=G.symm.trans J;cases L):b2≠m1)) λO=>Wf (α:=oA×Nat) (val:=λ_=>.tuple #[]) (q:=λ_=>True) (MI':=λx=>Nu b2 m1 x.1) (I':=λx=>Rj 54 b2 m1 x.1 x.2 (Aq t)) (F':=λ_=>[]) (XX:=λ_ _=>False) C C (eC ZI C C) (λw f d=>((Zn w f d.vl b2 m1 none 0 [] ⟨d.res.2,d.res.1.2,Gf _ _ _,⟨O,by simp[rb],by simp[rb]⟩,List.nodup_nil⟩ (λb D=>(d.mi b (D.elim .inr (λh=>h.elim (λh=>.inl (.inr h)) (λh=>by cases h)))).2.1) t a c F D d.f0).mono λv w2 ⟨x,f2,Y,G,J,L,h5,h6⟩=>⟨x,f2,Y,G,J.mono (λb D=>D.elim .inr (λh=>h.elim (λh=>.inl (.inr h)) (λh=>by cases h))),(λb D=>(L b D).imp (λD=>D.elim .inr (λh=>h.elim (λh=>.inl (.inr h)) (λh=>by cases h))) id),h5,h6⟩).retP) (λ_=>Ea.stab) (λ_=>trivial) (λ_ _ _ _ _ h=>h.elim) ?_);rintro⟨Q,U⟩ -;exact Aa 4 [] (λ_=>Dn C C (λw f d=>Ai C PR d.res.blk C)<|Aa 4 [] (λ_=>AR (CY C C) (λw f d=>let ⟨f2,hE,hF⟩:=Ea.int d.res d.exm (λb D=>(d.mi b (.inr (.inr D))).2.2.elim id (λh=>h.elim));⟨(Q,U),f2,C,tQ,hE,⟨hF,tQ⟩⟩)))
end Go.Proofs.YtelmolopaolbcaaGreatDoor
namespace Go.Proofs
open Go.Shelf
def Tryz.lays156_ren:Go.Shelf.Ren:=⟨λ|156=>73|165=>98|166=>99|169=>100|240=>123|241=>124|276=>142|277=>143|n=>n,λ|31=>96|9=>9|3=>3|4=>4|0=>0|20=>20|72=>181|76=>185|70=>179|37=>44|75=>184|127=>207|164=>227|5=>5|80=>187|n=>n,λ|n=>n⟩
theorem Tryz.lays156:Go.Proofs.Lays.n156 prog Tryz.lays156_ren:={
 mixed:=kR
 f156:=func73.trans (congrArg some kR)
 f165:=func98.trans (congrArg some kR)
 f166:=func99.trans (congrArg some kR)
 f169:=func100.trans (congrArg some kR)
 f240:=func123.trans (congrArg some kR)
 f241:=func124.trans (congrArg some kR)
 f276:=func142.trans (congrArg some kR)
 f277:=func143.trans (congrArg some kR)
 t0:=underlying0
 a0:=isAgg0
 z0:=sizeOf0
 v0:=zeroValue0
 t3:=underlying3
 a3:=isAgg3
 z3:=sizeOf3
 v3:=zeroValue3
 t4:=underlying4
 a4:=isAgg4
 z4:=sizeOf4
 v4:=zeroValue4
 t9:=underlying9
 a9:=isAgg9
 z9:=sizeOf9
 v9:=zeroValue9
 t20:=underlying20
 a20:=isAgg20
 z20:=sizeOf20
 v20:=zeroValue20
 t31:=underlying96
 a31:=isAgg96
 z31:=sizeOf96
 v31:=zeroValue96
 t37:=underlying44
 a37:=isAgg44
 z37:=sizeOf44
 v37:=zeroValue44
 t70:=underlying179
 a70:=isAgg179
 z70:=sizeOf179
 v70:=zeroValue179
 t72:=underlying181
 a72:=isAgg181
 z72:=sizeOf181
 v72:=zeroValue181
 t75:=underlying184
 a75:=isAgg184
 z75:=sizeOf184
 v75:=zeroValue184
 t76:=underlying185
 a76:=isAgg185
 z76:=sizeOf185
 v76:=zeroValue185
 t127:=underlying207
 a127:=isAgg207
 z127:=sizeOf207
 v127:=zeroValue207
 t164:=underlying227
 a164:=isAgg227
 z164:=sizeOf227
 v164:=zeroValue227}
def Tryz.lays171_ren:Go.Shelf.Ren:=⟨λ|171=>95|243=>120|246=>141|283=>161|284=>162|285=>163|286=>164|129=>176|317=>175|318=>177|319=>178|320=>179|337=>189|338=>190|n=>n,λ|3=>3|9=>9|2=>2|4=>4|171=>253|0=>0|53=>43|37=>44|5=>5|173=>256|212=>273|51=>221|20=>20|213=>274|46=>208|232=>318|233=>319|n=>n,λ|17=>4|18=>12|19=>13|n=>n⟩
theorem Tryz.lays171:Go.Proofs.Lays.n171 prog Tryz.lays171_ren:={
 mixed:=kR
 f129:=func176.trans (congrArg some kR)
 f171:=func95.trans (congrArg some kR)
 f243:=func120.trans (congrArg some kR)
 f246:=func141.trans (congrArg some kR)
 f283:=func161.trans (congrArg some kR)
 f284:=func162.trans (congrArg some kR)
 f285:=func163.trans (congrArg some kR)
 f286:=func164.trans (congrArg some kR)
 f317:=func175.trans (congrArg some kR)
 f318:=func177.trans (congrArg some kR)
 f319:=func178.trans (congrArg some kR)
 f320:=func179.trans (congrArg some kR)
 f337:=func189.trans (congrArg some kR)
 f338:=func190.trans (congrArg some kR)
 t0:=underlying0
 a0:=isAgg0
 z0:=sizeOf0
 v0:=zeroValue0
 t2:=underlying2
 a2:=isAgg2
 z2:=sizeOf2
 v2:=zeroValue2
 t3:=underlying3
 a3:=isAgg3
 z3:=sizeOf3
 v3:=zeroValue3
 t4:=underlying4
 a4:=isAgg4
 z4:=sizeOf4
 v4:=zeroValue4
 t5:=underlying5
 a5:=isAgg5
 z5:=sizeOf5
 v5:=zeroValue5
 t9:=underlying9
 a9:=isAgg9
 z9:=sizeOf9
 v9:=zeroValue9
 t20:=underlying20
 a20:=isAgg20
 z20:=sizeOf20
 v20:=zeroValue20
 t37:=underlying44
 a37:=isAgg44
 z37:=sizeOf44
 v37:=zeroValue44
 t46:=underlying208
 a46:=isAgg208
 z46:=sizeOf208
 v46:=zeroValue208
 t51:=underlying221
 a51:=isAgg221
 z51:=sizeOf221
 v51:=zeroValue221
 t53:=underlying43
 a53:=isAgg43
 z53:=sizeOf43
 v53:=zeroValue43
 t171:=underlying253
 a171:=isAgg253
 z171:=sizeOf253
 v171:=zeroValue253
 t173:=underlying256
 a173:=isAgg256
 z173:=sizeOf256
 v173:=zeroValue256
 t212:=underlying273
 a212:=isAgg273
 z212:=sizeOf273
 v212:=zeroValue273
 t213:=underlying274
 a213:=isAgg274
 z213:=sizeOf274
 t232:=underlying318
 a232:=isAgg318
 z232:=sizeOf318
 v232:=zeroValue318
 t233:=underlying319
 a233:=isAgg319
 z233:=sizeOf319
 v233:=zeroValue319
 g17:=kR
 g18:=kR
 g19:=by kernel_rfl}
def Tryz.lays157_ren:Go.Shelf.Ren:=⟨λ|157=>82|229=>112|199=>113|261=>135|311=>158|312=>159|n=>n,λ|9=>9|31=>96|3=>3|5=>5|4=>4|119=>196|0=>0|40=>198|152=>218|21=>21|154=>220|51=>221|141=>223|196=>243|193=>240|198=>246|49=>244|194=>241|201=>249|226=>270|46=>208|227=>271|n=>n,λ|0=>0|6=>1|n=>n⟩
theorem Tryz.lays157:Go.Proofs.Lays.n157 prog Tryz.lays157_ren:={
 mixed:=kR
 f157:=func82.trans (congrArg some kR)
 f199:=func113.trans (congrArg some kR)
 f229:=func112.trans (congrArg some kR)
 f261:=func135.trans (congrArg some kR)
 f311:=func158.trans (congrArg some kR)
 f312:=func159.trans (congrArg some kR)
 t0:=underlying0
 a0:=isAgg0
 z0:=sizeOf0
 v0:=zeroValue0
 t3:=underlying3
 a3:=isAgg3
 z3:=sizeOf3
 v3:=zeroValue3
 t4:=underlying4
 a4:=isAgg4
 z4:=sizeOf4
 v4:=zeroValue4
 t5:=underlying5
 a5:=isAgg5
 z5:=sizeOf5
 v5:=zeroValue5
 t9:=underlying9
 a9:=isAgg9
 z9:=sizeOf9
 v9:=zeroValue9
 t21:=underlying21
 a21:=isAgg21
 z21:=sizeOf21
 v21:=zeroValue21
 t31:=underlying96
 a31:=isAgg96
 z31:=sizeOf96
 v31:=zeroValue96
 t40:=underlying198
 a40:=isAgg198
 z40:=sizeOf198
 v40:=zeroValue198
 t46:=underlying208
 a46:=isAgg208
 z46:=sizeOf208
 v46:=zeroValue208
 t49:=underlying244
 a49:=isAgg244
 z49:=sizeOf244
 v49:=zeroValue244
 t51:=underlying221
 a51:=isAgg221
 z51:=sizeOf221
 v51:=zeroValue221
 t119:=underlying196
 a119:=isAgg196
 z119:=sizeOf196
 t141:=underlying223
 a141:=isAgg223
 z141:=sizeOf223
 v141:=zeroValue223
 t152:=underlying218
 a152:=isAgg218
 z152:=sizeOf218
 v152:=zeroValue218
 t154:=underlying220
 a154:=isAgg220
 z154:=sizeOf220
 v154:=zeroValue220
 t193:=underlying240
 a193:=isAgg240
 z193:=sizeOf240
 v193:=zeroValue240
 t194:=underlying241
 a194:=isAgg241
 z194:=sizeOf241
 v194:=zeroValue241
 t196:=underlying243
 a196:=isAgg243
 z196:=sizeOf243
 v196:=zeroValue243
 t198:=underlying246
 a198:=isAgg246
 z198:=sizeOf246
 v198:=zeroValue246
 t201:=underlying249
 a201:=isAgg249
 z201:=sizeOf249
 v201:=zeroValue249
 t226:=underlying270
 a226:=isAgg270
 z226:=sizeOf270
 v226:=zeroValue270
 t227:=underlying271
 a227:=isAgg271
 z227:=sizeOf271
 v227:=zeroValue271
 g0:=kR
 g6:=by kernel_rfl}
end Go.Proofs
namespace Go.Proofs.YtelmolopaolbcaaGreatDoor
open Go.SW Go.SP Go.RowKit Go.Shelf Go.Proofs.Tryz
theorem Yz(w:wO)(f:Fq)(d:Vl w f)(i:Nat)(h:i<100):Bq prog 95 #[.int .i64 (i:Int)] w (B3 (α:=Unit) (λ_=>S (Lib.decDigits i)) (λ_=>True) (λ_=>[]) w f) :=
 Calls.mono (Any.strconv_Itoa_small Tryz.lays171 i h w) λ_ _ ⟨he,hw⟩=>⟨_,he,(),f,C,tQ,(by subst hw;exact CK.refl _ d),tQ⟩
theorem bxE:Builder.Extra prog Tryz.lays156_ren where
 sizeBuilder:=kR
 liesBuilder:=kR
 t5:=underlying5
 a5:=isAgg5
 z5:=sizeOf5
 v5:=zeroValue5
 infoByte:=kR
 cellsByte:=kR
 sizeByte:=kR
 neB5:=dC
theorem PT(w:wO)(f:Fq)(L:Vl w f)(bk o c:Nat)(l:List lU)(s:lU)(J:Cs w f bk o (l.map S))(O:0<l.length)(Q:l.length≤1000000)(d:l.length≤c)(hlen:(Lib.join l s).length≤140737488355328) :
   Bq prog 73 #[.slice (some ⟨bk,o,none⟩) l.length c,S s] w (B3 (α:=Unit) (λ_=>S (Lib.join l s)) (λ_=>True) (λ_=>[]) w f):=by
 have K:(l.map λx=>(⟨x.toArray⟩:ByteArray)).map (·.data.toList)=l:=by rw[List.map_map];exact List.map_id' l
 have G:bk<w.heap.size:=by
   obtain⟨x,D⟩:∃x,l[0]?=some x:=⟨_,List.getElem?_eq_getElem O⟩;exact IW (J 0 (S x) (by rw[List.getElem?_map,D];rfl)).2
 have h:=Any.strings_Join Tryz.lays156 bxE bk o c (l.map λx=>⟨x.toArray⟩) ⟨s.toArray⟩ w (λj x F=>by
   rw[List.getElem?_map] at F
   cases D:l[j]? with
   |none=>rw[D] at F;cases F
   |some y=>rw[D] at F;cases F;exact (J j (S y) (by rw[List.getElem?_map,D];rfl)).2) G (by rw[List.length_map];omega) (by rw[List.length_map];exact d) (by rw[K];exact hlen)
 rw[K,List.length_map] at h;exact Calls.mono h λ_ _ ⟨he,hw⟩=>⟨_,he,(),f,C,tQ,Go.SW.Below.exm hw L _,tQ⟩
end Go.Proofs.YtelmolopaolbcaaGreatDoor
namespace Go.Proofs.YtelmolopaolbcaaGreatDoor
open Go.SW Go.SP Go.RowKit Go.Proofs.Tryz
theorem TL(w:wO)(f:Fq)(F:Vl w f)(n:Nat)(J:n<2000) :
  Bq prog 67 #[iV (n:Int)] w (B3 (α:=Unit) (λ_=>S (DM n)) (λ_=>True) (λ_=>[]) w f):=by
 have G:(Lib.decDigits (n / 26)).length≤20:=by rw[← QK 19 (n / 26) (by omega)];exact OV 20 _
 refine Cw (X:=X0 w f) (H:=[]) (R:=[]) (B:=[]) (Fs:=[]) (f:=f) func67 C C C (Ci F tQ tQ)<|Aa 8 [] (λ_=>Dn C C (λw f d=>oF ((n % 26:Nat):Int) C C dC (by rw[Int.tmod_eq_emod_of_nonneg (by omega)];omega))<|Aa 1 [] (aI ⟨oM,oM⟩<|λ_=>Dn C C (λw f d=>BJ (m:=97+((n % 26:Nat):Int)) C WD (by unfold IntKind.wrap;simp[IntKind.bits,IntKind.signed];omega))<|Dn C C (λw f d=>eO C oN (V6 n))<|Aa 11 [] (aI (by simp <;> omega)<|λ_=>AN 11 C C (λD=>?_) (λD=>?_))));refine Aa 4 [] (λ_=>Dn C C (λw f d=>kO ((n / 26:Nat):Int) C C dC (by rw[Int.tdiv_eq_ediv_of_nonneg (by omega),Gm (by omega)];omega))<|Bt C C (eC xE C C) (λw f d=>Yz w f d.vl (n / 26) oM) (λx=>trivial) ?_);rintro⟨⟩ -;refine Aa 11 [] (aI (by simp <;> omega)<|λ_=>?_);have h:DM n=[39,UInt8.ofNat (97+n % 26)]++Lib.decDigits (n / 26):=by unfold DM;rw[if_neg (by have:=dT D;omega),QK 19 (n / 26) (by omega)]
 exact AR (CY C C) (λw f d=>⟨(),f,(by rw[h];rfl),tQ,d.exm,tQ⟩);refine Aa 10 [] (λ_=>?_);have h:DM n=[39,UInt8.ofNat (97+n % 26)]:=by unfold DM;rw[if_pos (by have:=dF D;omega)];rfl
 exact AR (CY C C) (λw f d=>⟨(),f,(by rw[h];rfl),tQ,d.exm,tQ⟩)
theorem YD(m:Nat)(ih:pA prog 68 m)(w:wO)(f:Fq)(hv:Vl w f)(mb:Nat)(vs:List Int)(es:List (Int×Value))(D:BM Fi w mb es)(hL:Mq vs es)(t:T1)(a:oA)(c:Nat)(hm:t.kids.size<m+1)(hsz:t.kids.size≤1000000)(F:t.bnd)(hT:Ak w f t.kids a c) :
  Bq prog 68 #[tV t a c,.map (some mb)] w (B3 (α:=Unit) (λ_=>S (P4 vs t)) (λ_=>True) (λ_=>[]) w f):=by
 have hbl:=F.1;have L:=D.lt;refine Cw (X:=X0 w f) (H:=[]) (R:=[]) (B:=[]) (Fs:=[λw f=>Ak w f t.kids a c]) (f:=f) func68 C C C (Ci hv ⟨hT,tQ⟩ ⟨Ak.mono,tQ⟩)<|Aa 16 [0] (λb1=>y<|λ_=>AN 8 C C (λG=>?_) (λG=>?_));refine Aa 6 [0] (y<|λ_=>Dn C C (λw f d=>M8 (K:=Fi) (a:=t.num) C C cP PB qzo9 (D.heap (d.exm.stp.block mb L (λh=>h))) hL.1 (hL.get t.num))<|Aa 6 [] (λ_=>?_));obtain⟨n,rfl⟩:=Ew G;exact AR (CY C C) (λw f d=>⟨(),f,C,tQ,d.exm,tQ⟩);refine Aa 10 [0] (y<|λ_=>AN 16 C C (λO=>?_) (λO=>?_));refine Aa 11 [0] (y<|λ_=>?_);obtain⟨tx,kk,rfl⟩:=FM G;obtain rfl:kk=.nil:=Ty.len0 (by have Q:=beq_iff_eq.1 O;simp only[T1.kids] at Q;omega);exact AR (CY C C) (λw f d=>⟨(),f,(by rw[WC];rfl),tQ,d.exm,tQ⟩);refine Aa 22 [0,1] (y<|λb2=>y<|λ_=>jN 0 1 1 C C C dC ?_);refine FG (α:=Nat×Ty×List lU×oA×Nat) (λx=>x.2.1.len) (λx=>x.1+x.2.1.len=t.kids.len∧x.2.2.1.length=x.1∧DE vs t.kids=Lib.joinTail [32] x.2.2.1++DE vs x.2.1∧x.2.1.bnd∧x.2.1.size≤t.kids.size) (λx=>(E6 1 (.map (some mb)) 2 (pB b1) 5 (.slice x.2.2.2.1 (x.1+1) x.2.2.2.2) 27 (.slice a t.kids.len c) 28 (iV (t.kids.len:Int)) 29 (iV (x.1:Int)))) (λx=>X0 w f) (λx=>[⟨b1,tC t a c,76,true⟩]) (λx=>[⟨9,1,x.2.2.2.1,x.2.2.2.2,x.1+1,(t.tx::x.2.2.1).map S⟩]) (λx=>[]) (λx=>[λw f=>BN w f a x.1 x.2.1]) (0,t.kids,[],some ⟨b2,0,none⟩,1) ⟨by simp,C,C,F.2,Nat.le_refl _⟩ lE (λw f d=>d.more (B':=[]) (F':=[λw f=>BN w f a 0 t.kids]) nE (AI.mem ⟨Ak.at d.f0,tQ⟩) (Aw.mem ⟨BN.mono,tQ⟩) |>.less sR sR nE (mR [0])) ?_;rintro⟨i,r,l,ra,rc⟩ ⟨hi,hl,hk,J,hs⟩;dsimp only at hi hl hk J hs ⊢;refine Aa 6 [] (λ_=>AN 30 C C (λU=>?_) (λU=>?_));refine Aa 6 [] (λ_=>?_);have hil:i<t.kids.len:=by have:=dT U;omega
 obtain⟨t2,r,rfl⟩:=Ty.cases1 r oM;rw[T1.len_cons] at hi;refine Z8 0 C ?_;rintro⟨eb,eo,ka,kc⟩ rfl;refine Aa 11 [100,0,0,0] (aI oM<|y2<|λb3=>y<|y<|λ_=>Bt C C (eC fM C C) (λw f d=>ih w f d.vl mb vs es (D.heap (d.exm.stp.block mb L (λh=>h))) hL t2 ka kc (by have:=T1.size_cons t2 r;omega) (by have:=T1.size_cons t2 r;omega) (T1.bnd_cons.1 J).1 d.f0) (λx=>trivial) ?_);rintro⟨⟩ -;exact Aa 1 [] (λb4=>λ_=>Dq 0 0 C C SK C C C C C C C C (λ_ _=>C) oM oM λY Z=>Aa 8 [] (aI ⟨oM,oM⟩<|λ_=>Df ((i+1,r,l++[P4 vs t2],Y,Z)) (show r.len<(t2.cons r).len by rw[T1.len_cons];omega) ⟨show i+1+r.len=t.kids.len by omega,show (l++[P4 vs t2]).length=i+1 by simp[hl],show DE vs t.kids=Lib.joinTail [32] (l++[P4 vs t2])++DE vs r by rw[hk,Ml,ND];simp,(T1.bnd_cons.1 J).2,show r.size≤t.kids.size by have:=T1.size_cons t2 r;omega⟩ lE (λw f d=>⟨_,by have hM2:=d.less (H':=[⟨b1,tC t (some ⟨eb,eo,none⟩) c,76,true⟩]) (R':=[⟨9,1,Y,Z,i+1+1,(t.tx::l).map S++[S (P4 vs t2)]⟩]) (B':=[]) (F':=[λw f=>BN w f (some ⟨eb,eo,none⟩) (i+1) r]) (.cons _ (.cons _ sR)) sR nE (mR [1]);rw[show (t.tx::l).map S++[S (P4 vs t2)]=(t.tx::(l++[P4 vs t2])).map S by simp] at hM2;exact hM2⟩)));refine Aa 3 [] (λ_=>Fh<|Aa 3 [] (λ_=>?_));obtain rfl:r=.nil:=Ty.len0 (by have:=dF U;omega);rw[show DE vs .nil=[] from C,List.append_nil] at hk;refine Jf (λw f d=>(let ⟨_,h⟩:=d.row _ (.head _);h.elim (λh=>by simp at h) (λ⟨b,q,G,O,U,_⟩=>⟨b,G,U⟩):∃b,ra=some ⟨b,0,none⟩∧i+1≤rc)) λhra=>?_;obtain⟨rb1,rfl,hrc⟩:=hra;refine pW 0 C C ?_;have hjn:Lib.join (t.tx::l) [32]=t.tx++DE vs t.kids:=by rw[Lib.join_cons,hk]
 have hjl:(t.tx++DE vs t.kids).length≤1100000000000:=by have G:=Ll vs t.kids F.2;have O:=hbl.2;rw[List.length_append];omega
 refine Aa 2 [] (λ_=>Bt (α:=Unit) (val:=λ_=>S (t.tx++DE vs t.kids)) (q:=λ_=>True) (F':=λ_=>[]) C C (eC cX C C) (λw f d=>(by have Q:=PT w f d.vl rb1 0 rc (t.tx::l) [32] d.b0 (by simp) (by simp;omega) (by simp;omega) (by rw[hjn];omega);rw[hjn,show (t.tx::l).length=i+1 by simp[hl]] at Q;exact Q)) (λx=>trivial) ?_);rintro⟨⟩ -;refine Aa 6 [] (aI (by simp at hjl ⊢;omega)<|aI (by simp at hjl ⊢;omega)<|λ_=>?_);obtain⟨tx,kk,rfl⟩:=FM G;have hsc:=eD vs tx kk (by have Q:¬(kk.len:Int)=0:=(by simpa[T1.kids] using O);omega);exact AR (CY C C) (λw f d=>⟨(),f,(by rw[hsc];rfl),tQ,d.exm,tQ⟩)
theorem YI(w:wO)(f:Fq)(d:Vl w f)(mb:Nat)(vs:List Int)(es:List (Int×Value))(D:BM Fi w mb es)(G:Mq vs es)(t:T1)(a:oA)(c:Nat)(F:t.kids.size≤1000000)(J:t.bnd)(K:Ak w f t.kids a c) :
  Bq prog 68 #[tV t a c,.map (some mb)] w (B3 (α:=Unit) (λ_=>S (P4 vs t)) (λ_=>True) (λ_=>[]) w f) :=
 Nq (p:=pA prog 68) (λw f d mb vs es _ _ t a c h=>by omega) (λm L w f d mb vs es O Q t a c U Y Z h6=>YD m L w f d mb vs es O Q t a c U Y Z h6) (t.kids.size+1) w f d mb vs es D G t a c (Nat.lt_succ_self _) F J K
theorem F9(w:wO)(f:Fq)(D:Vl w f)(l:List Int)(a:oA)(c:Nat)(n:Int)(F:l.length≤1000000)(G:B9 w f l a c) :
  Bq prog 92 #[.slice a l.length c,iV n] w (B3 (α:=Unit) (λ_=>.bool (l.contains n)) (λ_=>True) (λ_=>[]) w f):=by
 refine Cw (X:=X0 w f) (H:=[]) (R:=[]) (B:=[]) (Fs:=[λw f=>B9 w f l a c]) (f:=f) func92 C C C (Ci D ⟨G,tQ⟩ ⟨B9.mono,tQ⟩)<|Aa 9 [] (λ_=>Bt C C (eC gO C C) (λw f d=>MG w f d.vl l a c n F d.f0) (λx=>trivial) ?_);rintro⟨⟩ -;exact Aa 5 [] (λ_=>AR (CY C C) (λw f d=>⟨(),f,(by congr 1;cases h:DD l n with|none=>rw[Z5,h,PW h];rfl|some i=>rw[Z5,h,(Mg h).1];simp),tQ,d.exm,tQ⟩))
theorem iM(w:wO)(f:Fq)(D:Vl w f) :
  Bq prog 52 #[] w (KB (α:=Nat×Nat) (λx=>pB x.1) (λx=>x.1≠x.2) (λ_=>False) (λx=>MY x.1 x.2) (λx=>BC 163 x.1 x.2 [] 0 0) (λ_=>[]) w f):=by
 exact Cw (X:=X0 w f) (H:=[]) (R:=[]) (B:=[]) (Fs:=[]) (f:=f) func52 C C C (Ci D tQ tQ)<|Aa 7 [] (λ_=>yJ (K:=Fi) C C λm1=>Aa 6 [] (λb1=>λ_=>yE 0 C C<|AR (CY C C) (λw f d=>⟨(b1,m1),f,C,uJ d.res.2 d.res.1.2,d.exm,(λb F=>let ⟨G,J,L⟩:=d.mi b (F.elim .inr (λh=>.inl (.inr h)));L.elim (λh=>.inr ⟨h,G,J⟩) .inl),BC.new d.res.2 d.res.1.2,tQ⟩)))
theorem XW(w:wO)(f:Fq)(Y:Vl w f)(t:T1)(a:oA)(c:Nat)(Z:t.kids.size+1≤1000)(J:t.bnd)(hT:Ak w f t.kids a c) :
  Bq prog 32 #[tV t a c] w (B3 (α:=Unit) (λ_=>S (NP t)) (λ_=>True) (λ_=>[]) w f):=by
 have hvl:=Ha t;have L:(Aq t).Nodup:=ID _ _ List.nodup_nil;refine Cw (X:=X0 w f) (H:=[]) (R:=[]) (B:=[]) (Fs:=[λw f=>Ak w f t.kids a c]) (f:=f) func32 C C C (Ci Y ⟨hT,tQ⟩ ⟨Ak.mono,tQ⟩)<|Aa 8 [] (λb1=>λ_=>yJ (K:=Fi) C C λm1=>Aa 7 [0] (y<|λ_=>Bt C C (eC M7 C C) (λw f d=>Hb w f d.vl t a c oM J d.f0) (λx=>⟨B9.mono,tQ⟩) ?_));rintro⟨va,vc⟩ -;refine Aa 5 [] (λ_=>?_);refine FG (α:=Nat×List (Int×Value)) (λx=>(Aq t).length-x.1) (λx=>x.1≤(Aq t).length∧Mq ((Aq t).take x.1) x.2) (λx=>(E5 1 (pB b1) 3 (.map (some m1)) 8 (.slice va (Aq t).length vc) 9 (iV ((Aq t).length:Int)) 10 (iV (x.1:Int)))) (λx=>⟨λ_=>False,λb=>False∨b=m1,λw f=>True∧BM Fi w m1 x.2,w,f⟩) (λx=>[⟨b1,tC t a c,76,true⟩]) (λx=>[]) (λx=>[]) (λx=>[λw f=>B9 w f (Aq t) va vc,λw f=>Ak w f t.kids a c]) (0,[]) ⟨Nat.zero_le _,Mq.nil⟩ lE (λw f d=>d) ?_;rintro⟨i,es⟩ ⟨hi,D⟩;dsimp only at hi D ⊢;refine Aa 6 [] (λ_=>AN 11 C C (λO=>?_) (λO=>?_));refine Aa 6 [] (λ_=>?_);have F:i<(Aq t).length:=by have:=dT O;omega
 obtain⟨v0,Q⟩:∃v,(Aq t)[i]?=some v:=⟨_,List.getElem?_eq_getElem F⟩;have G:=D.snoc (Vk L Q);refine rI 0 C Q ?_;rintro⟨b,off⟩ rfl;refine Aa 12 [100,0] (aI oM<|y2<|λ_=>Bt C C (eC rR C C) (λw f d=>TL w f d.vl i oM) (λx=>trivial) ?_);rintro⟨⟩ -;exact cN (K:=Fi) (a:=v0) (l:=es) (I':=λw f=>True∧BM Fi w m1 ((v0,S (DM i))::es)) C C C C cP PB (.inr C) D.1 G.1 (λw f h=>h.2) (λw f w2 h d hC hm=>⟨tQ,hm⟩) (λ_ _ _ _ h _ J=>⟨tQ,h.2.heap (J _ (.inr C))⟩)<|Aa 7 [] (aI ⟨oM,oM⟩<|λ_=>Df ((i+1,(v0,S (DM i))::es)) (show (Aq t).length-(i+1)<(Aq t).length-i by omega) ⟨by show i+1≤_;omega,by show Mq ((Aq t).take (i+1)) _;rw[CC Q];have U:=G.2;rw[List.length_take,Nat.min_eq_left (Nat.le_of_lt F)] at U;exact U⟩ lE (λw f d=>⟨_,d.less sR sR nE (λ_ h=>h)⟩));refine Aa 3 [] (λ_=>Fh<|Aa 3 [] (λ_=>?_));rw[List.take_of_length_le (by have:=dF O;omega)] at D;refine Aa 3 [0] (y<|λ_=>Bt C C (eC fM C C) (λw f d=>YI w f d.vl m1 (Aq t) es d.res.2 D t a c oM J d.f1) (λx=>trivial) ?_);rintro⟨⟩ -;exact Aa 4 [] (λ_=>AR (CY C C) (λw f d=>⟨(),f,C,tQ,d.exm,tQ⟩))
end Go.Proofs.YtelmolopaolbcaaGreatDoor
