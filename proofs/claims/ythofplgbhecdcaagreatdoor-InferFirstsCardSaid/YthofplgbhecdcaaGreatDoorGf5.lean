/- What it rests on, part 5. -/
import Derived.Test.YthofplgbhecdcaaGreatDoorGf4
import Derived.Shelf.Strings.OnBuilder
import Derived.Shelf.Strconv.Itoa3
import Derived.Shelf.Strings.Fields
set_option linter.unusedVariables false
set_option linter.unusedSimpArgs false
namespace Go.Proofs.YthofplgbhecdcaaGreatDoor
open Go.SW Go.SP Go.RowKit
def oL:Ea:=⟨[],[],[9],[],[],[],[],[]⟩
theorem AP:oL.Ok Tryz.prog:=⟨trivial,trivial,(And.intro Im trivial),trivial,trivial,trivial,trivial,trivial⟩
theorem N2(w:World)(s:List UInt8)(a b:List UInt8)(ha:GZ a)(hb:GZ b)(hane:a≠[])(hbne:b≠[])(hab:a.length+b.length≤15)(neg:Bool)(hs:s=(bif neg then [45] else [])++(a++46::b)) :
  BF Tryz.prog 178 #[S s] w fun v w'=>v=.tuple #[.int .u64 (CW 0 (a++b):Int),.int .i64 (if CW 0 (a++b)=0 then 0 else -(b.length:Int)),.bool neg,.bool false,.bool false,.int .i64 (s.length:Int),.bool true]∧AV w w':=by
 have hal:1≤a.length:=List.length_pos_iff.2 hane
 have hbl:1≤b.length:=List.length_pos_iff.2 hbne
 obtain⟨a0,ar,hae⟩:∃c r,a=c::r:=by
  cases a with
  |nil=>exact absurd rfl hane
  |cons c r=>exact⟨c,r,rfl⟩
 obtain⟨o,ho,ho1⟩:∃o,(bif neg then 1 else 0:Nat)=o∧o≤1:=⟨_,rfl,by cases neg <;> decide⟩
 have hso:s.drop o=a++46::b:=by subst ho;rw[hs];cases neg <;> rfl
 have hlo:s.length=o+(a.length+(b.length+1)):=by subst ho;rw[hs];cases neg <;> simp <;> omega
 obtain⟨c0,hc0,hcn⟩:∃c:UInt8,s[0]?=some c∧(c.toNat=45∧neg=true∨(48≤c.toNat∧c.toNat≤57)∧neg=false):=by
  cases neg with
  |true=>exact⟨45,by rw[hs];rfl,.inl ⟨rfl,rfl⟩⟩
  |false=>exact⟨a0,by rw[hs,hae];rfl,.inr ⟨ha a0 (hae▸List.mem_cons_self),rfl⟩⟩
 have ha0:s[o]?=some a0:=by rw[← Nat.add_zero o,← List.getElem?_drop,hso,hae];rfl
 obtain⟨a1,ha1,ha1d⟩:=Wr (s:=s) (b:=b) o ha hane hso
 have hX:=AV.refl w
 refine enter Tryz.func178 rfl rfl rfl<|gP [] AP 11 [] (Ar _) (fun _=>Wq<|gP [] AP 14 [] (Ar _) (fun _=>sP 24 rfl (fun h1=>?_) (fun h1=>?_)))
 ·
  exfalso
  have h9:=of_decide_eq_true h1;omega
 refine gP [.sq _] AP 3 [] (Ar _) (fun _=>PT (E9 0 (S s) 2 (.int .u64 0) 3 (.int .i64 0) 4 (.bool neg) 5 (.bool false) 6 (.bool false) 7 (.int .i64 (o:Int)) 8 (.bool false) 9 (.bool false)) (fun w'=>AV w w') ?_ ?_)
 refine gP [] AP 4 [] (Ar _) (fun _=>Aa rfl (DB (c:=c0) rfl rfl Im dC hc0)<|gL [.sq _] AP 9 [] (Ar _) (fun _=>sP 28 rfl (fun h2=>?_) (fun h2=>?_)))
 ·
  exfalso
  have h9:=(beq_iff_eq).1 h2;omega
 refine gP [.bk _] AP 7 [] (Ar _) (fun _=>sP 32 rfl (fun h3=>?_) (fun h3=>?_))
 refine gP [.bk _] AP 2 [] (Ar _) (fun _=>?_)
 obtain rfl:neg=true:=by have h9:(c0.toNat:Int)=45:=(beq_iff_eq).1 h3;rcases hcn with h|h;exact h.2;omega
 subst ho
 exact gP [.sq _,.bk _] AP 2 [] (Ar _) (fun _=>Aa rfl (M0 (1) rfl rfl dC)<|gL [.sq _,.bk _] AP 7 [] (Ar _) (fun _=>OB lE hX))
 obtain rfl:neg=false:=by have h9:¬(c0.toNat:Int)=45:=(by simpa using h3);rcases hcn with h|h;omega;exact h.2
 subst ho
 exact gP [.bk _] AP 3 [] (Ar _) (fun _=>OB lE hX)
 rintro wl hX
 refine gP [] AP 15 [] (Ar _) (fun _=>PT (oA 0 (S s) 2 (.int .u64 0) 3 (.int .i64 0) 4 (.bool neg) 5 (.bool false) 6 (.bool false) 7 (.int .i64 (o:Int)) 8 (.bool false) 9 (.bool false) 10 (.int .u64 10) 11 (.int .i64 19)) (fun w'=>AV w w') ?_ ?_)
 refine gP [] AP 8 [] (Ar _) (And.intro ⟨oM,oM⟩<|fun _=>sL 41 rfl (fun h4=>?_) (fun h4=>?_))
 refine gL [.sq _] AP 2 [] (Ar _) (fun _=>BG rfl rfl rfl<|Aa rfl (DB (c:=a0) rfl rfl Im oM (by rw[Int.toNat_natCast];exact ha0))<|gL [.sq _] AP 3 [] (Ar _) (fun _=>sL 47 rfl (fun h5=>?_) (fun h5=>?_)))
 refine gL [.sq _] AP 3 [] (Ar _) (And.intro ⟨oM,oM⟩<|fun _=>BG rfl rfl rfl<|Aa rfl (DB (c:=a1) rfl rfl Im oM ha1)<|BG rfl rfl rfl<|A7 rfl (Aw fP rfl rfl) (Ub _ a1 ha1d) ?_)
 rintro _ w1 ⟨rfl,hE1⟩
 replace hX:=hX.trans hE1
 have sz1:=hE1.size
 refine gL [.sq _] AP 4 [] (Ar _) (fun _=>sP 54 rfl (fun h6=>?_) (fun h6=>?_))
 ·
  exfalso
  have h9:=(beq_iff_eq).1 h6;omega
 exact gP [] AP 2 [] (Ar _) (fun _=>OB lE hX)
 exact gL [.sq _] AP 11 [] (Ar _) (fun _=>OB lE hX)
 ·
  exfalso
  have h9:=of_decide_eq_false h4;omega
 rintro wl hX
 refine gP [] AP 26 [] (Ar _) (fun _=>VG<|gQ [.sq _] AP 3 [] (Ar _) (fun _=>?_))
 refine Eh (fun k σ ds w'=>∃(j m nd:Nat)(dp:Int)(dot sd:Bool)(rest:List UInt8),k=rest.length∧ds=[]∧σ=(lM 0 (S s) 2 (.int .u64 (m:Int)) 3 (.int .i64 0) 4 (.bool neg) 5 (.bool false) 6 (.bool false) 7 (.int .i64 (j:Int)) 8 (.bool false) 9 (.bool false) 10 (.int .u64 10) 11 (.int .i64 19) 13 (.bool dot) 14 (.bool sd) 15 (.int .i64 (nd:Int)) 16 (.int .i64 (nd:Int)) 17 (.int .i64 dp))∧s.drop j=rest∧j+rest.length=s.length∧FV b dot rest∧CW 0 (a++b)=CW m (J4 rest)∧(dot=true→dp=(nd:Int)-((b.length:Int)-rest.length))∧nd≤j ∧ -(j:Int)≤dp∧dp≤j∧(nd=0↔m=0)∧(sd=true∨rest=a++46::b)∧AV w w') (a++46::b).length (lM 0 (S s) 2 (.int .u64 ((0:Nat):Int)) 3 (.int .i64 0) 4 (.bool neg) 5 (.bool false) 6 (.bool false) 7 (.int .i64 (o:Int)) 8 (.bool false) 9 (.bool false) 10 (.int .u64 10) 11 (.int .i64 19) 13 (.bool false) 14 (.bool false) 15 (.int .i64 ((0:Nat):Int)) 16 (.int .i64 ((0:Nat):Int)) 17 (.int .i64 0)) lE ⟨o,0,0,0,false,false,a++46::b,rfl,rfl,rfl,hso,by rw[hlo];simp <;> omega,⟨a,rfl,ha⟩,by rw[VR ha hb],(fun h=>by cases h),oM,oM,oM,by simp,.inr rfl,hX⟩ ?_
 rintro _ _ _ wl ⟨j,m,nd,dp,dot,sd,rest,rfl,rfl,rfl,hdr,hjr,hfv,hdec,hdp,hnd,hd1,hd2,hnm,hsd,hX⟩
 have hml:m<1000000000000000:=by have h1:=Pp (J4 rest) m;have h2:=Nc (l:=a++b) (fun x hx=>(List.mem_append.1 hx).elim (ha x) (hb x)) (by rw[List.length_append];exact hab);omega
 have hsl:s.length≤17:=oM
 refine gP [] AP 9 [] (Ar _) (fun _=>sP 60 rfl (fun h7=>?_) (fun h7=>?_))
 refine gP [.sq _] AP 7 [] (Ar _) (fun _=>?_)
 rcases rest with _|⟨c,r⟩
 · exfalso;have h9:=of_decide_eq_true h7;simp at hjr;omega
 have hcj:s[j]?=some c:=Q9 hdr
 have hcl:=hfv.cons
 have hc46:46≤c.toNat∧c.toNat≤57:=hcl.elim (fun h=>by rw[h.1];decide) (fun h=>by omega)
 refine gP [.sq _,.sq _,.bk _,.sq _] AP 3 [] (Ar _) (fun _=>Aa rfl (DB (c:=c) rfl rfl Im oM (by rw[Int.toNat_natCast];exact hcj))<|gL [.sq _,.sq _,.bk _,.sq _] AP 8 [] (Ar _) (fun _=>Aa rfl (Qy rC rfl rfl)<|gL [.sq _,.bk _,.sq _,.bk _,.sq _] AP 3 [] (Ar _) (fun _=>sP 66 rfl (fun h8=>?_) (fun h8=>?_))))
 ·
  exfalso
  have h9:=(beq_iff_eq).1 h8;omega
 refine gP [.bk _,.sq _,.bk _,.sq _] AP 5 [] (Ar _) (fun _=>Aa rfl (Qy rC rfl rfl)<|gL [.sq _,.bk _,.sq _,.bk _,.sq _] AP 3 [] (Ar _) (fun _=>sP 70 rfl (fun h9=>?_) (fun h9=>?_)))
 refine gP [.bk _,.sq _,.bk _,.sq _] AP 3 [] (Ar _) (fun _=>?_)
 have hc6:(c.toNat:Int)=46:=by simpa using h9
 obtain⟨hc6,hdf,hrb⟩:c=46∧dot=false∧r=b:=hcl.elim id (fun h=>by omega)
 replace hrb:=hrb.symm
 subst hdf hrb hc6
 have hsd2:sd=true:=hsd.resolve_right (fun h=>by cases a with|nil=>exact hane rfl|cons x a=>simp at h;have:=ha x (.head _);rw[← h.1] at this;revert this;decide)
 refine gP [.sq _,.sq _,.bk _,.sq _,.bk _,.sq _] AP 28 [] (Ar _) (And.intro ⟨oM,oM⟩<|fun _=>HA b.length (lM 0 (S s) 2 (.int .u64 (m:Int)) 3 (.int .i64 0) 4 (.bool neg) 5 (.bool false) 6 (.bool false) 7 (.int .i64 ((j+1:Nat):Int)) 8 (.bool false) 9 (.bool false) 10 (.int .u64 10) 11 (.int .i64 19) 13 (.bool true) 14 (.bool sd) 15 (.int .i64 (nd:Int)) 16 (.int .i64 (nd:Int)) 17 (.int .i64 (nd:Int))) (by simp) lE ⟨j+1,m,nd,(nd:Int),true,sd,b,rfl,rfl,rfl,Kc hdr,by simp only[List.length_cons] at hjr;omega,⟨hb,Nat.le_refl _⟩,by rw[hdec,OR],(fun _=>by omega),oM,oM,oM,hnm,.inl hsd2,hX⟩)
 refine gP [.bk _,.sq _,.bk _,.sq _] AP 2 [] (Ar _) (fun _=>?_)
 have hn6:(c.toNat:Int)≠46:=by simpa using h9
 obtain⟨hcd,hfr⟩:(48≤c.toNat∧c.toNat≤57)∧FV b dot r:=hcl.elim (fun h=>absurd (by rw[h.1];rfl) hn6) id
 refine gP [.sq _,.bk _,.sq _,.bk _,.sq _] AP 4 [] (Ar _) (fun _=>sL 79 rfl (fun h10=>?_) (fun h10=>?_))
 refine gL [.sq _,.bk _,.sq _,.bk _,.sq _] AP 3 [] (Ar _) (fun _=>Aa rfl (Qy rC rfl rfl)<|gL [.sq _,.bk _,.sq _,.bk _,.sq _] AP 3 [] (Ar _) (fun _=>sP 76 rfl (fun h11=>?_) (fun h11=>?_)))
 refine gP [.bk _,.sq _,.bk _,.sq _] AP 12 [] (Ar _) (fun _=>sL 86 rfl (fun h12=>?_) (fun h12=>?_))
 refine gL [.sq _,.sq _,.bk _,.sq _,.bk _,.sq _] AP 5 [] (Ar _) (fun _=>sP 89 rfl (fun h13=>?_) (fun h13=>?_))
 refine gP [.sq _,.bk _,.sq _,.bk _,.sq _] AP 19 [] (Ar _) (And.intro ⟨oM,oM⟩<|And.intro ⟨oM,oM⟩<|fun _=>?_)
 have hm0:m=0:=hnm.1 (by have:=h13;simp at this;omega)
 have hc0:c.toNat=48:=by have:=h12;simp at this;omega
 refine HA r.length (lM 0 (S s) 2 (.int .u64 (m:Int)) 3 (.int .i64 0) 4 (.bool neg) 5 (.bool false) 6 (.bool false) 7 (.int .i64 ((j+1:Nat):Int)) 8 (.bool false) 9 (.bool false) 10 (.int .u64 10) 11 (.int .i64 19) 13 (.bool dot) 14 (.bool true) 15 (.int .i64 (nd:Int)) 16 (.int .i64 (nd:Int)) 17 (.int .i64 (dp-1))) (by simp) lE ⟨j+1,m,nd,dp-1,dot,true,r,rfl,rfl,rfl,Kc hdr,by simp only[List.length_cons] at hjr;omega,hfr,by rw[hdec,IB hcd,NK,hc0,hm0],(fun h=>by have h1:=hdp h;simp only[List.length_cons] at h1;omega),oM,oM,oM,hnm,.inl rfl,hX⟩
 refine gP [.sq _,.bk _,.sq _,.bk _,.sq _] AP 4 [] (Ar _) (fun _=>?_)
 have hnz:¬(m*10+(c.toNat-48)=0):=by
  intro h9
  have hm9:m=0:=oM
  have hn9:=hnm.2 hm9
  have h8:=h13
  simp at h8
  omega
 refine gP [.sq _,.bk _,.sq _,.bk _,.sq _] AP 14 [] (Ar _) (And.intro ⟨oM,oM⟩<|fun _=>sP 96 rfl (fun h14=>?_) (fun h14=>?_))
 refine gP [.sq _,.bk _,.sq _,.bk _,.sq _] AP 5 [] (Ar _) (fun _=>Aa rfl (Qk ((m:Int)*10) rfl rfl (GL ⟨oM,oM⟩))<|gL [.sq _,.sq _,.bk _,.sq _,.bk _,.sq _] AP 7 [] (Ar _) (fun _=>Aa rfl (Gb ((c.toNat:Int)-48) rfl rfl (Ve ⟨oM,oM⟩))<|Aa rfl (Dh (m:=(c.toNat:Int)-48) rfl Uc (GL ⟨oM,oM⟩))<|Aa rfl (M0 ((m:Int)*10+((c.toNat:Int)-48)) rfl rfl (GL ⟨oM,oM⟩))<|gL [.sq _,.sq _,.bk _,.sq _,.bk _,.sq _] AP 19 [] (Ar _) (And.intro ⟨oM,oM⟩<|And.intro ⟨oM,oM⟩<|fun _=>?_)))
 have hme:(m:Int)*10+((c.toNat:Int)-48)=((m*10+(c.toNat-48):Nat):Int):=oM
 refine HA r.length (lM 0 (S s) 2 (.int .u64 ((m*10+(c.toNat-48):Nat):Int)) 3 (.int .i64 0) 4 (.bool neg) 5 (.bool false) 6 (.bool false) 7 (.int .i64 ((j+1:Nat):Int)) 8 (.bool false) 9 (.bool false) 10 (.int .u64 10) 11 (.int .i64 19) 13 (.bool dot) 14 (.bool true) 15 (.int .i64 ((nd+1:Nat):Int)) 16 (.int .i64 ((nd+1:Nat):Int)) 17 (.int .i64 dp)) (by simp) (nH rfl (hme▸rfl) rfl rfl rfl rfl rfl rfl rfl rfl rfl rfl rfl rfl rfl rfl) ⟨j+1,m*10+(c.toNat-48),nd+1,dp,dot,true,r,rfl,rfl,rfl,Kc hdr,by simp only[List.length_cons] at hjr;omega,hfr,by rw[hdec,IB hcd,NK],(fun h=>by have h1:=hdp h;simp only[List.length_cons] at h1;omega),oM,oM,oM,⟨fun h=>by omega,fun h=>?_⟩,.inl rfl,hX⟩
 exfalso
 have hz:=hnz
 omega
 ·
  exfalso
  have h9:=of_decide_eq_false h14;omega
 refine gL [.sq _,.sq _,.bk _,.sq _,.bk _,.sq _] AP 9 [] (Ar _) (fun _=>?_)
 have hnz:¬(m*10+(c.toNat-48)=0):=by
  intro h9
  have hm9:m=0:=oM
  have hn9:=hnm.2 hm9
  have h8:=h12
  simp at h8
  omega
 refine gP [.sq _,.bk _,.sq _,.bk _,.sq _] AP 14 [] (Ar _) (And.intro ⟨oM,oM⟩<|fun _=>sP 96 rfl (fun h15=>?_) (fun h15=>?_))
 refine gP [.sq _,.bk _,.sq _,.bk _,.sq _] AP 5 [] (Ar _) (fun _=>Aa rfl (Qk ((m:Int)*10) rfl rfl (GL ⟨oM,oM⟩))<|gL [.sq _,.sq _,.bk _,.sq _,.bk _,.sq _] AP 7 [] (Ar _) (fun _=>Aa rfl (Gb ((c.toNat:Int)-48) rfl rfl (Ve ⟨oM,oM⟩))<|Aa rfl (Dh (m:=(c.toNat:Int)-48) rfl Uc (GL ⟨oM,oM⟩))<|Aa rfl (M0 ((m:Int)*10+((c.toNat:Int)-48)) rfl rfl (GL ⟨oM,oM⟩))<|gL [.sq _,.sq _,.bk _,.sq _,.bk _,.sq _] AP 19 [] (Ar _) (And.intro ⟨oM,oM⟩<|And.intro ⟨oM,oM⟩<|fun _=>?_)))
 have hme:(m:Int)*10+((c.toNat:Int)-48)=((m*10+(c.toNat-48):Nat):Int):=oM
 refine HA r.length (lM 0 (S s) 2 (.int .u64 ((m*10+(c.toNat-48):Nat):Int)) 3 (.int .i64 0) 4 (.bool neg) 5 (.bool false) 6 (.bool false) 7 (.int .i64 ((j+1:Nat):Int)) 8 (.bool false) 9 (.bool false) 10 (.int .u64 10) 11 (.int .i64 19) 13 (.bool dot) 14 (.bool true) 15 (.int .i64 ((nd+1:Nat):Int)) 16 (.int .i64 ((nd+1:Nat):Int)) 17 (.int .i64 dp)) (by simp) (nH rfl (hme▸rfl) rfl rfl rfl rfl rfl rfl rfl rfl rfl rfl rfl rfl rfl rfl) ⟨j+1,m*10+(c.toNat-48),nd+1,dp,dot,true,r,rfl,rfl,rfl,Kc hdr,by simp only[List.length_cons] at hjr;omega,hfr,by rw[hdec,IB hcd,NK],(fun h=>by have h1:=hdp h;simp only[List.length_cons] at h1;omega),oM,oM,oM,⟨fun h=>by omega,fun h=>?_⟩,.inl rfl,hX⟩
 exfalso
 have hz:=hnz
 omega
 ·
  exfalso
  have h9:=of_decide_eq_false h15;omega
 ·
  exfalso
  have h9:=of_decide_eq_false h11;omega
 ·
  exfalso
  have h9:=of_decide_eq_false h10;omega
 refine gP [.sq _] AP 3 [] (Ar _) (fun _=>Oc<|gQ [.bk _,.sq _] AP 4 [] (Ar _) (fun _=>?_))
 have hrn:rest=[]:=by cases rest with|nil=>rfl|cons x r=>exfalso;have h9:=of_decide_eq_false h7;simp only[List.length_cons] at hjr;omega
 subst hrn
 have hdt:=hfv.nil
 subst hdt
 have hst:sd=true:=hsd.resolve_right (fun h=>by cases a <;> cases h)
 subst hst
 have hdp2:=hdp rfl
 simp only[List.length_nil] at hdp2 hjr
 have hM:CW 0 (a++b)=m:=by rw[hdec];exact Z8 m
 refine gP [.sq _,.sq _] AP 36 [] (Ar _) (fun _=>sL 154 rfl (fun DW=>?_) (fun DW=>?_))
 ·
  exfalso
  have h9:=of_decide_eq_true DW;omega
 refine gL [.sq _,.sq _] AP 26 [] (Ar _) (fun _=>sP 241 rfl (fun h17=>?_) (fun h17=>?_))
 exact gP [.sq _] AP 30 [] (Ar _) (And.intro ⟨oM,oM⟩<|fun _=>cV<|By (dF rfl (Aj rfl) (Aj rfl) (Aj rfl) (Aj rfl) (Aj rfl) (Aj rfl) (Aj rfl))<|⟨by rw[if_neg (by rw[hM];have h9:=h17;simp at h9;omega),hM,show dp-(nd:Int) = -(b.length:Int) by omega,show ((j:Nat):Int)=(s.length:Int) by omega],hX⟩)
 exact gP [.sq _] AP 25 [] (Ar _) (fun _=>cV<|By (dF rfl (Aj rfl) (Aj rfl) (Aj rfl) (Aj rfl) (Aj rfl) (Aj rfl) (Aj rfl))<|⟨by rw[if_pos (by rw[hM];have h9:=h17;simp at h9;omega),hM,show ((j:Nat):Int)=(s.length:Int) by omega],hX⟩)
def nY:Ea:=⟨[(268,0,0)],[],[9],[],[],[],[],[]⟩
theorem Bt:nY.Ok Tryz.prog:=⟨(And.intro ZK trivial),trivial,(And.intro Im trivial),trivial,trivial,trivial,trivial,trivial⟩
theorem iM:Extern.findNext Tryz.f187=none:=kR
theorem gD:Extern.find Tryz.f187=some Extern.MathFloatBits.float64frombits:=kR
theorem WR:rQ Tryz.prog 29 182=some .f64:=kR
theorem TK(w:World)(hG:Gl w)(m n:Nat)(neg:Bool)(hm:m<1000000000000000)(hn:1≤n∧n≤14) :
  BF Tryz.prog 188 #[.int .u64 (m:Int),.int .i64 (-(n:Int)),.bool neg] w fun v w'=>v=.tuple #[.float .f64 ((FloatKind.f64.format.div (if neg then Op.negFloat .f64 (FloatKind.f64.nearest (m:Int)) else FloatKind.f64.nearest (m:Int)) (Gt.getD n 0)).getD 0),.bool true]∧AV w w':=by
 obtain⟨pb,po,pn,pc,hp1,hp2,hp3⟩:=hG.pow10
 have hX:=AV.refl w
 refine enter Tryz.func188 rfl rfl rfl<|gP [] Bt 11 [] (Ar _) (fun _=>Aa rfl (Ix rfl oI (hG.ext hX).finfo)<|Aa rfl (Vk 0 rfl rfl dC (by rw[show min (52:Int).toNat IntKind.u64.bits=52 by decide,S8,Nat.div_eq_of_lt (by omega)];rfl))<|gL [.sq _,.sq _] Bt 9 [] (Ar _) (fun _=>Aa rfl (iU rfl WR)<|gL [.sq _] Bt 9 [] (Ar _) (fun _=>sP 15 rfl (fun h1=>?_) (fun h1=>?_))))
 refine gP [.sq _] Bt 3 [] (Ar _) (fun _=>Aa rfl (ZT rfl)<|gL [.sq _] Bt 12 [] (Ar _) (fun _=>sP 18 rfl (fun h2=>?_) (fun h2=>?_)))
 ·
  exfalso
  have h9:=(beq_iff_eq).1 h2;omega
 refine gP [.bk _,.sq _] Bt 6 [] (Ar _) (fun _=>sL 25 rfl (fun h3=>?_) (fun h3=>?_))
 ·
  exfalso
  have h9:=of_decide_eq_true h3;omega
 refine gL [.sq _,.bk _,.sq _] Bt 12 [] (Ar _) (fun _=>sL 53 rfl (fun h4=>?_) (fun h4=>?_))
 refine gL [.sq _,.bk _,.sq _] Bt 6 [] (Ar _) (fun _=>sP 50 rfl (fun h5=>?_) (fun h5=>?_))
 refine gP [.bk _,.sq _] Bt 2 [] (Ar _) (fun _=>?_)
 obtain⟨r,hr⟩:=RQ neg m n oM
 rw[h1] at hr
 simp only[Bool.false_eq_true,if_true,if_false] at hr
 have hpn:=QY (show n<15 by omega)
 refine gP [.sq _,.bk _,.sq _] Bt 2 [] (Ar _) (fun _=>Aa rfl (Ix rfl dN (EK hp1 hX))<|Aa rfl (A0 rfl)<|Aa rfl (Lq (n:Int) rfl (by rw[IS ⟨by omega,by omega⟩];omega))<|Aa rfl (K8 (i:=n) rfl rfl dQ oM)<|Aa rfl (Ix rfl cT (by rw[Nat.mul_one];exact EK (hp3 n _ hpn) hX))<|Aa rfl (UX rfl rfl hr)<|gL [.sq _,.bk _,.sq _] Bt 7 [] (Ar _) (fun _=>By (Cu rfl (Aj rfl) (Aj rfl))<|⟨?_,hX⟩))
 rw[h1]
 simp only[Bool.false_eq_true,if_true,if_false]
 rw[hr];rfl
 ·
  exfalso
  have h9:=of_decide_eq_false h5;omega
 ·
  exfalso
  have h9:=of_decide_eq_false h4;omega
 refine gP [.sq _] Bt 12 [] (Ar _) (fun _=>sP 18 rfl (fun h6=>?_) (fun h6=>?_))
 ·
  exfalso
  have h9:=(beq_iff_eq).1 h6;omega
 refine gP [.bk _,.sq _] Bt 6 [] (Ar _) (fun _=>sL 25 rfl (fun h7=>?_) (fun h7=>?_))
 ·
  exfalso
  have h9:=of_decide_eq_true h7;omega
 refine gL [.sq _,.bk _,.sq _] Bt 12 [] (Ar _) (fun _=>sL 53 rfl (fun h8=>?_) (fun h8=>?_))
 refine gL [.sq _,.bk _,.sq _] Bt 6 [] (Ar _) (fun _=>sP 50 rfl (fun h9=>?_) (fun h9=>?_))
 refine gP [.bk _,.sq _] Bt 2 [] (Ar _) (fun _=>?_)
 obtain⟨r,hr⟩:=RQ neg m n oM
 rw[h1] at hr
 simp only[Bool.false_eq_true,if_true,if_false] at hr
 have hpn:=QY (show n<15 by omega)
 refine gP [.sq _,.bk _,.sq _] Bt 2 [] (Ar _) (fun _=>Aa rfl (Ix rfl dN (EK hp1 hX))<|Aa rfl (A0 rfl)<|Aa rfl (Lq (n:Int) rfl (by rw[IS ⟨by omega,by omega⟩];omega))<|Aa rfl (K8 (i:=n) rfl rfl dQ oM)<|Aa rfl (Ix rfl cT (by rw[Nat.mul_one];exact EK (hp3 n _ hpn) hX))<|Aa rfl (UX rfl rfl hr)<|gL [.sq _,.bk _,.sq _] Bt 7 [] (Ar _) (fun _=>By (Cu rfl (Aj rfl) (Aj rfl))<|⟨?_,hX⟩))
 rw[h1]
 simp only[Bool.false_eq_true,if_true,if_false]
 rw[hr];rfl
 ·
  exfalso
  have h9:=of_decide_eq_false h9;omega
 ·
  exfalso
  have h9:=of_decide_eq_false h8;omega
theorem Uf(w:World)(neg:Bool) :
  BF Tryz.prog 186 #[.bool neg] w fun v w'=>v=.int .u64 (if neg then 1 else 0)∧AV w w':=by
 have hX:=AV.refl w
 refine enter Tryz.func186 rfl rfl rfl<|gP [] Bt 11 [] (Ar _) (fun _=>sP 3 rfl (fun h1=>?_) (fun h1=>?_))
 exact gP [.sq _] Bt 8 [] (Ar _) (fun _=>By (AI rfl (Aj rfl))<|⟨by rw[h1];rfl,hX⟩)
 exact gP [.sq _] Bt 9 [] (Ar _) (fun _=>By (AI rfl (Aj rfl))<|⟨by rw[h1];rfl,hX⟩)
theorem QV(w:World)(s a b:List UInt8)(neg:Bool)(ha:GZ a)(hane:a≠[])(hs:s=if neg then 45::(a++46::b) else a++46::b) :
  BF Tryz.prog 177 #[S s] w fun v w'=>v=.tuple #[.float .f64 0,.int .i64 0,.bool false]∧AV w w':=by
 cases a with
 |nil=>exact absurd rfl hane
 |cons c r =>
  have hc:=ha c (.head _)
  cases neg with
  |true=>rw[hs];exact Sc w c (r++46::b) hc
  |false=>rw[hs];exact Rh w c (r++46::b) hc
theorem Ot(w:World)(s a b:List UInt8)(neg:Bool)(ha:GZ a)(hb:GZ b)(hane:a≠[])(hbne:b≠[])(hab:a.length+b.length≤15)(hs:s=if neg then 45::(a++46::b) else a++46::b) :
  BF Tryz.prog 178 #[S s] w fun v w'=>v=.tuple #[.int .u64 (CW 0 (a++b):Int),.int .i64 (if CW 0 (a++b)=0 then 0 else -(b.length:Int)),.bool neg,.bool false,.bool false,.int .i64 (s.length:Int),.bool true]∧AV w w':=by
 cases neg with
 |true=>exact N2 w s a b ha hb hane hbne hab true hs
 |false=>exact N2 w s a b ha hb hane hbne hab false hs
theorem QN(w:World)(hG:Gl w)(s:List UInt8)(a b:List UInt8)(ha:GZ a)(hb:GZ b)(hane:a≠[])(hbne:b≠[])(hab:a.length+b.length≤15)(neg:Bool)(hs:s=if neg then 45::(a++46::b) else a++46::b) :
  BF Tryz.prog 171 #[S s] w fun v w'=>v=.tuple #[.float .f64 (Mh neg a b),.int .i64 (s.length:Int),.nilIface]∧AV w w':=by
 have hal:1≤a.length:=List.length_pos_iff.2 hane
 have hbl:1≤b.length:=List.length_pos_iff.2 hbne
 have hML:=Nc (l:=a++b) (fun x hx=>(List.mem_append.1 hx).elim (ha x) (hb x)) (by rw[List.length_append];exact hab)
 have hX:=AV.refl w
 refine enter Tryz.func171 rfl rfl rfl<|gP [] Bt 11 [] (Ar _) (fun _=>A7 rfl (Aw gY rfl rfl) (QV _ s a b neg ha hane hs) ?_)
 rintro _ w1 ⟨rfl,hE1⟩
 replace hX:=hX.trans hE1
 have sz1:=hE1.size
 refine gL [.sq _,.sq _] Bt 20 [] (Ar _) (fun _=>A7 rfl (Aw gT rfl rfl) (Ot _ s a b neg ha hb hane hbne hab hs) ?_)
 rintro _ w2 ⟨rfl,hE2⟩
 replace hX:=hX.trans hE2
 have sz2:=hE2.size
 refine gL [.sq _] Bt 39 [] (Ar _) (fun _=>Aa rfl (Ix rfl eJ (hG.ext hX).optimize)<|gL [.sq _,.sq _] Bt 6 [] (Ar _) (fun _=>A7 rfl (Aw iF rfl rfl) (Uf _ neg) ?_))
 rintro _ w3 ⟨rfl,hE3⟩
 replace hX:=hX.trans hE3
 have sz3:=hE3.size
 refine Aa rfl (Ke (if neg then 9223372036854775808 else 0) rfl rfl dC (by cases neg <;> decide))<|gL [.sq _,.sq _] Bt 10 [] (Ar _) (fun _=>sP 69 rfl (fun h1=>?_) (fun h1=>?_))
 refine gP [.sq _,.sq _] Bt 4 [] (Ar _) (fun _=>Aa rfl (Zu (if neg then 9223372036854775808 else 0) rfl rfl (by cases neg <;> decide))<|Aa rfl (YT Tryz.func187 rfl rfl iM gD rfl rfl rfl)<|gL [.sq _,.sq _,.sq _] Bt 9 [] (Ar _) (fun _=>By (Ex rfl (Aj rfl) (Aj rfl) (Aj rfl)) ?_))
 have hM0:CW 0 (a++b)=0:=by have h9:=(beq_iff_eq).1 h1;omega
 exact⟨by cases neg <;> simp[Mh,hM0],hX⟩
 refine gP [.sq _,.sq _] Bt 10 [] (Ar _) (fun _=>sP 75 rfl (fun h2=>?_) (fun h2=>?_))
 ·
  exfalso
  have h9:=of_decide_eq_true h2;revert h9;split <;> omega
 refine gP [.sq _,.sq _] Bt 10 [] (Ar _) (fun _=>sP 82 rfl (fun h3=>?_) (fun h3=>?_))
 ·
  exfalso
  have h9:=of_decide_eq_true h3;revert h9;split <;> omega
 refine gP [.sq _,.sq _] Bt 16 [] (Ar _) (fun _=>?_)
 have hM0:¬CW 0 (a++b)=0:=by have h9:=h1;simp at h9;omega
 refine A7 rfl (Aw iO rfl rfl) ((show (if CW 0 (a++b)=0 then (0:Int) else -(b.length:Int)) = -(b.length:Int) from if_neg hM0)▸TK _ (hG.ext hX) (CW 0 (a++b)) b.length neg hML oM) ?_
 rintro _ w4 ⟨rfl,hE4⟩
 replace hX:=hX.trans hE4
 have sz4:=hE4.size
 exact gL [.sq _,.sq _,.sq _] Bt 25 [] (Ar _) (fun _=>By (Ex rfl (Aj rfl) (Aj rfl) (Aj rfl))<|⟨by rw[Mh,if_neg hM0],hX⟩)
theorem Jh(w:World)(hG:Gl w)(s:List UInt8)(a b:List UInt8)(ha:GZ a)(hb:GZ b)(hane:a≠[])(hbne:b≠[])(hab:a.length+b.length≤15)(neg:Bool)(hs:s=if neg then 45::(a++46::b) else a++46::b) :
  BF Tryz.prog 156 #[S s,.int .i64 64] w fun v w'=>v=.tuple #[.float .f64 (Mh neg a b),.int .i64 (s.length:Int),.nilIface]∧AV w w':=by
 have hX:=AV.refl w
 refine enter Tryz.func156 rfl rfl rfl<|gP [] Bt 20 [] (Ar _) (fun _=>A7 rfl (Aw gN rfl rfl) (QN _ (hG.ext hX) s a b ha hb hane hbne hab neg hs) ?_)
 rintro _ w1 ⟨rfl,hE1⟩
 replace hX:=hX.trans hE1
 have sz1:=hE1.size
 exact gL [.sq _] Bt 9 [] (Ar _) (fun _=>By (Ex rfl (Aj rfl) (Aj rfl) (Aj rfl))<|⟨rfl,hX⟩)
theorem LD(w:World)(hG:Gl w)(s:List UInt8)(a b:List UInt8)(ha:GZ a)(hb:GZ b)(hane:a≠[])(hbne:b≠[])(hab:a.length+b.length≤15)(neg:Bool)(hs:s=if neg then 45::(a++46::b) else a++46::b) :
  BF Tryz.prog 131 #[S s,.int .i64 64] w fun v w'=>v=.tuple #[.float .f64 (Mh neg a b),.nilIface]∧AV w w':=by
 have hX:=AV.refl w
 refine enter Tryz.func131 rfl rfl rfl<|gP [] Bt 10 [] (Ar _) (fun _=>A7 rfl (Aw jA rfl rfl) (Jh _ (hG.ext hX) s a b ha hb hane hbne hab neg hs) ?_)
 rintro _ w1 ⟨rfl,hE1⟩
 replace hX:=hX.trans hE1
 have sz1:=hE1.size
 refine gL [.sq _] Bt 18 [] (Ar _) (fun _=>sP 19 rfl (fun h1=>?_) (fun h1=>?_))
 ·
  exfalso
  simp at h1
 exact gP [.sq _] Bt 12 [] (Ar _) (fun _=>By (Cu rfl (Aj rfl) (Aj rfl))<|⟨rfl,hX⟩)
theorem Mq(w:World)(hG:Gl w)(s:List UInt8)(a b:List UInt8)(ha:GZ a)(hb:GZ b)(hane:a≠[])(hbne:b≠[])(hab:a.length+b.length≤15)(neg:Bool)(hs:s=if neg then 45::(a++46::b) else a++46::b) :
  BF Tryz.prog 113 #[S s,.int .i64 64] w fun v w'=>v=.tuple #[.float .f64 (Mh neg a b),.nilIface]∧AV w w':=by
 have hX:=AV.refl w
 refine enter Tryz.func113 rfl rfl rfl<|gP [] Bt 10 [] (Ar _) (fun _=>A7 rfl (Aw fL rfl rfl) (LD _ (hG.ext hX) s a b ha hb hane hbne hab neg hs) ?_)
 rintro _ w1 ⟨rfl,hE1⟩
 replace hX:=hX.trans hE1
 have sz1:=hE1.size
 exact gL [.sq _] Bt 11 [] (Ar _) (fun _=>Aa rfl (Il Gy rfl)<|gL [.sq _,.sq _] Bt 13 [] (Ar _) (fun _=>By (Cu rfl (Aj rfl) (Aj rfl))<|⟨rfl,hX⟩))
theorem tJ:mV:=fun w s a b hG hlen hf=>by
 obtain⟨h1,h2,h3,h4,h5,h6⟩:=PN hf
 refine Mq w hG s a b h1 h2 h3 h4 h5 (Oy s) ?_
 rcases KK s with hn|⟨r,rfl⟩
 · rw[hn,if_neg (by decide),← h6,I4 hn]
 ·
  rw[IQ] at h6
  rw[h6];rfl
end Go.Proofs.YthofplgbhecdcaaGreatDoor
namespace Go.SP
theorem Fo.len_snoc':∀(a:Fo)(t:AT)(k:Fo),(a.snoc t k).len=a.len+1
 |.nil,_,_=>rfl
 |.cons _ _ r,t,k=>by simp only[Fo.snoc,Fo.len,Fo.len_snoc' r t k]
theorem Fo.ok_snoc:∀(a:Fo)(t:AT)(k:Fo),a.ok→t.ok→k.ok→k.len≤100000→(a.snoc t k).ok
 |.nil,_,_,_,h1,h2,h3=>⟨h1,h2,h3,trivial⟩
 |.cons _ _ r,t,k,h,h1,h2,h3=>⟨h.1,h.2.1,h.2.2.1,Fo.ok_snoc r t k h.2.2.2 h1 h2 h3⟩
theorem Fo.deep_snoc:∀(a:Fo)(n:Nat)(t:AT)(k:Fo),a.deep (n+1)=true→k.deep n=true→(a.snoc t k).deep (n+1)=true
 |.nil,n,t,k,_,h=>by simp[Fo.snoc,Fo.deep,h]
 |.cons u l r,n,t,k,h1,h2=>by
   simp only[Fo.deep,Bool.and_eq_true] at h1
   simp only[Fo.snoc,Fo.deep,Bool.and_eq_true]
   exact⟨h1.1,Fo.deep_snoc r n t k h1.2 h2⟩
def pB:Nat→List (AT×Fo)→Prop
 |_,[]=>True
 |i,(o,p)::s=>o.ok∧p.ok∧p.len≤i∧p.deep (201-s.length)=true∧pB i s
theorem pB.up:∀{i:Nat}{st:List (AT×Fo)},pB i st→pB (i+1) st
 |_,[],_=>trivial
 |_,_::_,⟨a,b,c,d,e⟩=>⟨a,b,Nat.le_succ_of_le c,d,e.up⟩
theorem Hs:∀(l:List AT)(i:Nat)(st:List (AT×Fo))(cur fo:Fo),(∀t∈l,t.ok)→i+l.length≤100000→st.length≤200→pB i st→cur.ok→cur.len≤i→cur.deep (201-st.length)=true →
   Bz l st cur=.ok fo→fo.ok∧fo.len≤i+l.length∧fo.deep 201=true
 | [],i,[],cur,fo,_,_,_,_,h1,h2,h3,h=>by
   simp only[Bz] at h
   cases h
   exact⟨h1,by simpa using h2,by simpa using h3⟩
 | [],i,(o,p)::s,cur,fo,_,_,_,_,_,_,_,h=>by
   unfold Bz at h
   split at h <;> cases h
 |k::l,i,st,cur,fo,hl,hi,hs,hI,h1,h2,h3,h=>by
   have hk:k.ok:=hl k (.head _)
   have hl':∀t∈l,t.ok:=fun t ht=>hl t (.tail _ ht)
   simp only[List.length_cons] at hi
   unfold Bz at h
   split at h
   · split at h
     · cases h
     · rename_i h200
       have hne:st.length≠200:=by simpa using h200
       have:=Hs l (i+1) ((k,cur)::st) .nil fo hl' oM (by simp only[List.length_cons];omega) ⟨hk,h1,oM,h3,hI.up⟩ trivial (by simp[Fo.len]) (by simp[Fo.deep]) h
       refine⟨this.1,?_,this.2.2⟩
       have:=this.2.1
       simp only[List.length_cons]
       omega
   · split at h
     · cases st with
       |nil=>cases h
       |cons op s =>
         obtain⟨o,p⟩:=op
         simp only at h
         obtain⟨ho,hp,hpl,hpd,hIs⟩:=hI
         simp only[List.length_cons] at hs h3
         have e:201-s.length=(201-(s.length+1))+1:=oM
         have:=Hs l (i+1) s (p.snoc o cur) fo hl' oM oM hIs.up (Fo.ok_snoc p o cur hp ho h1 oM) (by rw[Fo.len_snoc'];omega) (by rw[e] at hpd ⊢;exact Fo.deep_snoc p _ o cur hpd h3) h
         refine⟨this.1,?_,this.2.2⟩
         have:=this.2.1
         simp only[List.length_cons]
         omega
     · have e:201-st.length=(201-(st.length+1))+1:=oM
       have:=Hs l (i+1) st (cur.snoc k .nil) fo hl' oM hs hI.up (Fo.ok_snoc cur k .nil h1 hk trivial (by simp[Fo.len])) (by rw[Fo.len_snoc'];omega)
         (by rw[e] at h3 ⊢;exact Fo.deep_snoc cur _ k .nil h3 (by simp[Fo.deep])) h
       refine⟨this.1,?_,this.2.2⟩
       have:=this.2.1
       simp only[List.length_cons]
       omega
theorem UB{toks:List AT}{fo:Fo}(hl:∀t∈toks,t.ok)(hi:toks.length≤100000)(h:Bz toks [] .nil=.ok fo):fo.all (GN 200)∧fo.len≤100000:=by
 obtain⟨h1,h2,h3⟩:=Hs toks 0 [] .nil fo hl oM (by simp) trivial trivial (by simp[Fo.len]) (by rfl) h
 exact⟨Nv 200 fo h1 h3,oM⟩
end Go.SP
namespace Go.SP
open Go.SW Go.RowKit
theorem Pf{F:Nat}:∀(n:Nat)(p:Ps)(l:List UInt8)(toks:List AT),Is F n p l=.ok toks→toks.length≤n
 |n,p,[],toks,h=>by rw[LV] at h;cases h;exact Nat.zero_le _
 |0,p,c::l,toks,h=>by cases h
 |n+1,p,c::l,toks,h=>by
   rw[I6] at h
   split at h
   · cases h
   · rename_i t r' p' hs
     split at h
     · cases h
     · rename_i l' hl
       cases h
       have:=Pf n p' r' l' hl
       have:=O3 hs
       rw[List.length_append]
       omega
theorem NU{start:Ps}:∀(n:Nat)(p:Ps)(acc l tx r:List UInt8)(p':Ps),Hl start n p acc l=.ok (tx,r,p')→tx.length≤4096
 |0,_,_,_,_,_,_,h=>by cases h
 |n+1,p,acc,[],tx,r,p',h=>by cases h
 |n+1,p,acc,c::l,tx,r,p',h=>by
   rw[Fj] at h
   split at h
   · split at h
     · cases h
     · rename_i hd
       cases h
       simp at hd
       omega
   · split at h
     · cases h
     · split at h
       · exact NU n _ _ _ tx r p' h
       · split at h
         · cases h
         · split at h
           · cases h
           · exact NU n _ _ _ tx r p' h
theorem Yd{w:List UInt8}{k nm:Int}{tx:List UInt8}(hne:w≠[])(h:JC w=some (k,nm,tx)):(k=5→tx≠[])∧tx.length≤100000∧k≠0∧k≠1:=by
 unfold JC at h
 split at h
 · cases h;simp
 · split at h
   · cases h;simp[N3,OQ]
   · split at h
     · cases h
     · rename_i hc
       simp only[Bool.or_eq_true,not_or,decide_eq_true_eq] at hc
       split at h
       · cases h;exact⟨by simp,oM,dC,dC⟩
       · split at h
         · cases h;exact⟨fun _=>hne,oM,dC,dC⟩
         · cases h
theorem Z4{F:Nat}{p p1:Ps}{l r:List UInt8}{ot:List AT}(h:Ee F p l=.ok (ot,r,p1)):∀t∈ot,t.ok:=by
 cases l with
 |nil=>cases h
 |cons c r =>
   rw[Ed] at h
   split at h
   · cases h;simp
   · split at h
     · simp only[Except.ok.injEq,Prod.mk.injEq] at h;rw[← h.1];simp
     · split at h
       · cases h;simp[AT.ok]
       · split at h
         · cases h;simp[AT.ok]
         · split at h
           · split at h
             · cases h
             · rename_i tx r' p' hs
               cases h
               have:=NU _ _ _ _ _ _ _ hs
               simp only[List.mem_singleton,forall_eq,AT.ok]
               exact⟨by simp,oM⟩
           · split at h
             · cases h
             · rename_i k nm tx hw
               simp only[Except.ok.injEq,Prod.mk.injEq] at h
               rw[← h.1]
               simp only[List.mem_singleton,forall_eq,AT.ok]
               have:=Yd (by simp) hw
               exact⟨this.1,this.2.1⟩
theorem Sw{F:Nat}:∀(n:Nat)(p:Ps)(l:List UInt8)(toks:List AT),Is F n p l=.ok toks→∀t∈toks,t.ok
 |n,p,[],toks,h=>by rw[LV] at h;cases h;simp
 |0,p,c::l,toks,h=>by cases h
 |n+1,p,c::l,toks,h=>by
   rw[I6] at h
   split at h
   · cases h
   · rename_i t r' p' hs
     split at h
     · cases h
     · rename_i l' hl
       cases h
       intro t ht
       rcases List.mem_append.1 ht with ht|ht
       · exact Z4 hs t ht
       · exact Sw n p' r' l' hl t ht
theorem UP{src:List UInt8}{toks:List AT}(h:LQ src=.ok toks):toks.length≤100000∧∀t∈toks,t.ok:=by
 unfold LQ at h
 split at h
 · cases h
 · rename_i hl
   simp only[decide_eq_true_eq] at hl
   split at h
   · cases h
   · rename_i l hs
     cases h
     exact⟨by have:=Pf _ _ _ _ hs;omega,Sw _ _ _ _ hs⟩
theorem Z7{src:List UInt8}{e:Int×Int×Int}(h:LQ src=.error e):(e.2.2 != 0)=true:=by
 unfold LQ at h
 split at h
 · cases h;rfl
 · split at h <;> cases h
   rfl
end Go.SP
namespace Go.Proofs.YthofplgbhecdcaaGreatDoor
open Go.SW Go.SP Go.RowKit
def Dw(src:List UInt8):Nd×Int×Int×Int:=La 200 (LQ src)
abbrev lY(p:Nd×Int×Int×Int)(a:Option Addr)(c:Nat):Value:=.tuple #[.slice a p.1.len c,.agg #[.int .i64 p.2.1,.int .i64 p.2.2.1],.int .i64 p.2.2.2]
theorem Re.out{p:Nd×Int×Int×Int}{w:World}{f:Fq}{v:Value}{w':World}(h:Re p w f v w'):BV (α:=Option Addr×Nat) (fun x=>lY p x.1 x.2) (fun _=>True) (fun x=>[fun w f=>AK w f p.1 x.1 x.2]) w f v w' :=
 let ⟨f',a,c,h1,h2,h3⟩:=h
 ⟨(a,c),f',h2,trivial,h1,h3,trivial⟩
theorem QU(w:World)(f:Fq)(hv:Vl w f)(hJ:D7 w f)(src:List UInt8) :
   BF Tryz.prog 5 #[S src] w (BV (α:=Option Addr×Nat) (fun x=>lY (Dw src) x.1 x.2) (fun _=>True) (fun x=>[fun w f=>AK w f (Dw src).1 x.1 x.2]) w f):=by
 refine BF.mono (R:=Re (Dw src) w f) ?_ fun _ _ h=>Re.out h
 unfold Dw
 cases hl:LQ src with
 |error e =>
   exact W2 w f hv hJ 199 src e (Z7 hl) fun w1 hG1=>by
     have:=Pr tJ w1 hG1 src
     rw[hl] at this
     exact this
 |ok toks =>
   obtain⟨h1,h2⟩:=UP hl
   exact Zf w f hv hJ 199 src toks h1 (fun fo hfo=>UB h2 h1 hfo) fun w1 hG1=>by
     have:=Pr tJ w1 hG1 src
     rw[hl] at this
     exact this
def tb:Ea:=⟨[],[(90,3,1)],[],[],[(56,true,4),(3,false,1)],[(56,[.int .i64 0,.int .i64 0,.string ⟨#[]⟩,.slice none 0 0])],[(56,[(0,1),(1,1),(2,1),(3,1)])],[]⟩
theorem ZC:tb.Ok Tryz.prog:=⟨trivial,(And.intro KZ trivial),trivial,trivial,(And.intro AJ (And.intro CZ trivial)),(And.intro DD trivial),(And.intro RM trivial),trivial⟩
theorem Eg(w:World)(f:Fq)(hv:Vl w f)(n:Int) :
  BF Tryz.prog 45 #[.int .i64 n] w (BV (α:=Unit) (fun _=>tV (.var n) none 0) (fun _=>True) (fun _=>[]) w f):=by
 exact Dg (X:=X0 w f) (H:=[]) (R:=[]) (B:=[]) (Fs:=[]) (f:=f) Tryz.func45 rfl rfl rfl (C7 hv trivial trivial)<|go ZC 13 [0] (fun b1=>y<|fun _=>AY (fun w f hM=>AI rfl (Ac rfl AJ hM.k0 rfl)) (fun w f hM=>⟨(),f,rfl,trivial,hM.exm,trivial⟩))
theorem Mf(w:World)(f:Fq)(hv:Vl w f)(l:List Int)(a:Option Addr)(c:Nat)(n:Int)(hl:l.length≤1000000)(hI:BN w f l a c) :
  BF Tryz.prog 69 #[.slice a l.length c,.int .i64 n] w (BV (α:=Unit) (fun _=>.int .i64 (Xc l n)) (fun _=>True) (fun _=>[]) w f):=by
 refine Dg (X:=X0 w f) (H:=[]) (R:=[]) (B:=[]) (Fs:=[fun w f=>BN w f l a c]) (f:=f) Tryz.func69 rfl rfl rfl (C7 hv ⟨hI,trivial⟩ ⟨BN.mono,trivial⟩)<|go ZC 14 [] (fun _=>?_)
 refine H9 (α:=Nat) (fun i=>l.length-i) (fun i=>i≤l.length∧(l.take i).contains n=false) (fun i=>(E4 0 (.slice a l.length c) 1 (.int .i64 n) 7 (.int .i64 (l.length:Int)) 8 (.int .i64 (i:Int)))) (fun i=>X0 w f) (fun i=>[]) (fun i=>[]) (fun i=>[]) (fun i=>[fun w f=>BN w f l a c]) (0) ⟨oM,rfl⟩ lE (fun w f hM=>hM) ?_
 rintro i ⟨hi,hno⟩
 refine go ZC 6 [] (fun _=>AZ 9 rfl rfl (fun h1=>?_) (fun h1=>?_))
 refine go ZC 12 [] (fun _=>?_)
 have hil:i<l.length:=by have:=of_decide_eq_true h1;omega
 obtain⟨v0,hx⟩:∃v,l[i]?=some v:=⟨_,List.getElem?_eq_getElem hil⟩
 refine CB (α:=Nat×Nat) (fun x=>a=some ⟨x.1,x.2,none⟩) (fun x=>[⟨x.1,x.2+i*1,[.int .i64 v0]⟩]) (fun x=>[]) (fun w f hM=>let ⟨b,off,h1,h2⟩:=BN.get hM.f0 hx;⟨(b,off),h1,(oE h2),fun _ h=>by cases h⟩) (fun x=>Af.mem trivial) ?_
 rintro⟨b,off⟩ rfl
 refine go ZC 9 [100,0] (And.intro oM<|y2<|fun _=>AZ 16 rfl rfl (fun h2=>?_) (fun h2=>?_))
 exact go ZC 10 [] (fun _=>cU<|go ZC 2 [] (fun _=>AY (Dz rfl rfl) (fun w f hM=>⟨(),f,(by rw[Xc,Vt hno (by rw[hx,show v0=n from (beq_iff_eq.1 h2).symm])]),trivial,hM.exm,trivial⟩)))
 refine go ZC 8 [] (And.intro ⟨oM,oM⟩<|fun _=>?_)
 have hno2:(l.take (i+1)).contains n=false:=by rw[D2 hx];have h9:¬n=v0:=(by simpa using h2);have h8:n∉l.take i:=(by simpa using hno);simp[h8,h9]
 exact Eb (i+1) (show l.length-(i+1)<l.length-i by omega) ⟨oM,hno2⟩ lE (fun w f hM=>⟨_,hM.less sR sR nE (fun _ h=>h)⟩)
 refine go ZC 3 [] (fun _=>Hc<|go ZC 8 [] (fun _=>?_))
 have hge:l.length≤i:=by have:=of_decide_eq_false h1;omega
 rw[List.take_of_length_le hge] at hno
 exact AY (Dz rfl rfl) (fun w f hM=>⟨(),f,(by rw[Xc,NX hno]),trivial,hM.exm,trivial⟩)
def uG:Ea:=⟨[(56,3,3)],[(52,56,4)],[],[],[(52,false,1),(56,true,4)],[(56,[.int .i64 0,.int .i64 0,.string ⟨#[]⟩,.slice none 0 0])],[],[]⟩
theorem Mr:uG.Ok Tryz.prog:=⟨(And.intro F4 trivial),(And.intro DI trivial),trivial,trivial,(And.intro H0 (And.intro AJ trivial)),(And.intro DD trivial),trivial,trivial⟩
theorem YD(m:Nat)(ih:lS Tryz.prog 70 m)(w:World)(f:Fq)(hv:Vl w f)(t:T1)(a:Option Addr)(c:Nat)(hm:t.kids.size<m+1)(hbd:t.bnd)(hT:Ah w f t.kids a c) :
  BF Tryz.prog 70 #[tV t a c] w (BV (α:=Option Addr×Nat) (fun x=>tV t x.1 x.2) (fun _=>True) (fun x=>[fun w f=>Ah w f t.kids x.1 x.2]) w f):=by
 have hbl:=hbd.1
 refine Dg (X:=X0 w f) (H:=[]) (R:=[]) (B:=[]) (Fs:=[fun w f=>Ah w f t.kids a c]) (f:=f) Tryz.func70 rfl rfl rfl (C7 hv ⟨hT,trivial⟩ ⟨Ah.mono,trivial⟩)<|go Mr 15 [1] (fun b1=>fun b2=>y<|fun _=>AZ 9 rfl rfl (fun h1=>?_) (fun h1=>?_))
 refine go Mr 15 [1,1,0] (y<|y<|y<|fun _=>?_)
 have h0:t.kids.len=0:=by have:=beq_iff_eq.1 h1;omega
 exact AY (fun w f hM=>AI rfl (Ac rfl AJ hM.k0 rfl)) (fun w f hM=>⟨(none,0),f,(by show Value.agg _=Value.agg _;rw[h0]),trivial,hM.exm,⟨by rw[Ty.len0 h0];exact Ah.nil _ _ _ _,trivial⟩⟩)
 refine go Mr 8 [1] (y<|fun _=>tB rfl rfl Dq rfl rfl rfl rfl (by have:=hbd.1;omega) (by have:=hbd.1;unfold maxLen;omega) fun br1=>go Mr 13 [1] (y<|fun _=>?_))
 refine H9 (α:=Nat×Ty×Ty×List Value) (fun x=>x.2.1.len) (fun x=>x.1+x.2.1.len=t.kids.len∧x.2.2.1.len=x.1∧t.kids=x.2.2.1.app x.2.1∧x.2.1.bnd∧x.2.1.size≤t.kids.size) (fun x=>(E6 1 (.pointer (some ⟨b1,0,none⟩)) 2 (.pointer (some ⟨b2,0,none⟩)) 3 (.slice (some ⟨br1,0,none⟩) t.kids.len t.kids.len) 17 (.slice a t.kids.len c) 18 (.int .i64 (t.kids.len:Int)) 19 (.int .i64 (x.1:Int)))) (fun x=>X0 w f) (fun x=>[⟨b2,[.int .i64 0,.int .i64 0,.string ⟨#[]⟩,.slice none 0 0],56,true⟩,⟨b1,[.int .i64 t.op,.int .i64 t.num,S t.tx,.slice a t.kids.len c],56,true⟩]) (fun x=>[⟨56,4,some ⟨br1,0,none⟩,t.kids.len,t.kids.len,x.2.2.2++Gh x.2.1.len [.int .i64 0,.int .i64 0,.string ⟨#[]⟩,.slice none 0 0]⟩]) (fun x=>[]) (fun x=>[fun w f=>AW w f a x.1 x.2.1,fun w f=>Bl w f x.2.2.1 x.2.2.2]) (0,t.kids,.nil,[]) ⟨by simp,rfl,rfl,hbd.2,Nat.le_refl _⟩ lE (fun w f hM=>hM.more (B':=[]) (F':=[fun w f=>AW w f a 0 t.kids,fun w f=>Bl w f .nil []]) nE (A1.mem ⟨Ah.at hM.f0,rfl,trivial⟩) (Af.mem ⟨AW.mono,Bl.mono,trivial⟩) |>.less sR sR (fun _ h=>h) (mR [0,1])) ?_
 rintro⟨i,r,dn,xs⟩ ⟨hi,hdl,hk,hb,hs⟩
 dsimp only at hi hdl hk hb hs ⊢
 refine go Mr 6 [] (fun _=>AZ 20 rfl rfl (fun h2=>?_) (fun h2=>?_))
 refine go Mr 6 [] (fun _=>?_)
 have hil:i<t.kids.len:=by have:=of_decide_eq_true h2;omega
 obtain⟨t2,r,rfl⟩:=Ty.cases1 r oM
 rw[T1.len_cons] at hi
 refine CB (α:=Nat×Nat×Option Addr×Nat) (fun x=>a=some ⟨x.1,x.2.1,none⟩) (fun x=>[⟨x.1,x.2.1+i*4,tC t2 x.2.2.1 x.2.2.2⟩]) (fun x=>[fun w f=>Ah w f t2.kids x.2.2.1 x.2.2.2,fun w f=>AW w f a (i+1) r]) (fun w f hM=>let ⟨b,off,ka,kc,h1,h2,h3,h4⟩:=AW.head hM.f0;⟨(b,off,ka,kc),h1,(oE h2),A1.mem ⟨h3,h4,trivial⟩⟩) (fun x=>Af.mem ⟨Ah.mono,AW.mono,trivial⟩) ?_
 rintro⟨eb,eo,ka,kc⟩ rfl
 refine go Mr 13 [100,0,0,0] (And.intro oM<|y2<|fun b3=>y<|y<|fun _=>B8 rfl rfl (eC PY rfl rfl) (fun w f hM=>ih w f hM.vl t2 ka kc (by have:=T1.size_cons t2 r;omega) (T1.bnd_cons.1 hb).1 hM.f0) (fun x=>⟨Ah.mono,trivial⟩) ?_)
 rintro⟨a2,c2⟩ -
 refine go Mr 1 [] (And.intro oM<|fun _=>Ky (fun w f hM=>Bl.len hM.f4) fun hxl=>?_)
 rw[hdl] at hxl
 exact qH 0 ((xs++tC t2 a2 c2)++Gh r.len [.int .i64 0,.int .i64 0,.string ⟨#[]⟩,.slice none 0 0]) rfl rfl rfl rfl AJ rfl rfl rfl (by simp only[Nat.zero_add,List.length_cons,List.length_nil,Int.toNat_natCast];omega) (by rw[Nat.zero_add,Int.toNat_natCast,← hxl,T1.len_cons,Gh];exact SA _ _ _ _ rfl) rfl<|go Mr 7 [] (And.intro ⟨oM,oM⟩<|fun _=>Eb ((i+1,r,dn.snoc t2,xs++tC t2 a2 c2)) (show r.len<(t2.cons r).len by rw[T1.len_cons];omega) ⟨show i+1+r.len=t.kids.len by omega,show (dn.snoc t2).len=i+1 by rw[Ty.len_snoc,hdl],show t.kids=(dn.snoc t2).app r by rw[hk,Ty.snoc_app],(T1.bnd_cons.1 hb).2,show r.size≤t.kids.size by have:=T1.size_cons t2 r;omega⟩ lE (fun w f hM=>⟨_,(hM.more (B':=[]) (F':=[fun w f=>Bl w f (dn.snoc t2) (xs++tC t2 a2 c2)]) nE (A1.mem ⟨Bl.snoc hM.f0 hM.f4,trivial⟩) (Af.mem ⟨Bl.mono,trivial⟩)).less (List.sublist_cons_self _ _) sR nE (mR [3,0])⟩))
 refine go Mr 3 [] (fun _=>Hc<|go Mr 3 [] (fun _=>?_))
 obtain rfl:r=.nil:=Ty.len0 (by have:=of_decide_eq_false h2;omega)
 rw[Ty.app_nil] at hk
 exact dR 0 rfl rfl<|go Mr 13 [1,1,0] (y<|y<|y<|fun _=>AY (fun w f hM=>AI rfl (Ac rfl AJ hM.k0 rfl)) (fun w f hM=>⟨(some ⟨br1,0,none⟩,t.kids.len),f,rfl,trivial,hM.exm,⟨hk▸Bl.toF hM.f1 (by have:=hM.b0;simpa[Gh,Ty.len] using this) (Nat.le_refl _),trivial⟩⟩))
end Go.Proofs.YthofplgbhecdcaaGreatDoor
namespace Go.SP
def Nd.bnd:Nd→Prop
 |.nil=>True
 |.cons _ _ _ _ _ kids rest=>kids.len≤200000∧kids.bnd∧rest.bnd
def N.bnd(a:N):Prop:=a.kids.len≤200000∧a.kids.bnd
theorem N.bnd_cons{a:N}{r:Nd}(h:a.bnd)(hr:r.bnd):(a.cons r).bnd:=⟨h.1,h.2,hr⟩
theorem Nd.bnd_app:∀{x y:Nd},x.bnd→y.bnd→(x.app y).bnd
 |.nil,_,_,h=>h
 |.cons _ _ _ _ _ _ _,_,h,hy=>⟨h.1,h.2.1,Nd.bnd_app h.2.2 hy⟩
def AT.er(t:AT):AT:=⟨t.k,0,0,t.nm,t.tx⟩
def Fo.er:Fo→Fo
 |.nil=>.nil
 |.cons t k r=>.cons t.er k.er r.er
def Nd.er:Nd→Nd
 |.nil=>.nil
 |.cons op _ _ tx nm kids r=>.cons op 0 0 tx nm kids.er r.er
def N.er(a:N):N:=⟨a.op,0,0,a.tx,a.nm,a.kids.er⟩
theorem Fo.app_nil:∀a:Fo,a.app .nil=a
 |.nil=>rfl
 |.cons _ _ r=>by simp only[Fo.app,Fo.app_nil r]
end Go.SP
namespace Go.SP
open Go.SW Go.RowKit
def dX(U:Nat→Prop)(w:World)(a:Option Addr)(i:Nat)(r:Nd):Prop :=
 r=.nil∨∃b off l T,U b∧a=some ⟨b,off,none⟩∧AQ w b l T∧FZ U w r (l.drop (off+i*6))
theorem dX.ext{U:Nat→Prop}{w w':World}{a:Option Addr}{i:Nat}{r:Nd}(h:dX U w a i r)(hE:AV w w'):dX U w' a i r :=
 h.imp id fun⟨b,off,l,T,hu,ha,hb,hc⟩=>⟨b,off,l,T,hu,ha,hb.ext hE,hc.ext hE⟩
theorem dX.head{U:Nat→Prop}{w:World}{a:Option Addr}{i:Nat}{op ln co nm:Int}{tx:List UInt8}{kids r:Nd}(h:dX U w a i (.cons op ln co tx nm kids r)):∃b off l T ka kn kc l',U b∧a=some ⟨b,off,none⟩∧AQ w b l T ∧
   l.drop (off+i*6)=.int .i64 op::.int .i64 ln::.int .i64 co::S tx::.int .i64 nm::.slice ka kn kc::l'∧H4 U w ka kn kc kids:=by
 rcases h with h|⟨b,off,l,T,hu,ha,hb,ka,kn,kc,l',h4,h5,h6⟩
 · cases h
 · exact⟨b,off,l,T,ka,kn,kc,l',hu,ha,hb,h4,h5⟩
theorem dX.next{U:Nat→Prop}{w:World}{a:Option Addr}{i:Nat}{op ln co nm:Int}{tx:List UInt8}{kids r:Nd}(h:dX U w a i (.cons op ln co tx nm kids r)):dX U w a (i+1) r:=by
 rcases h with h|⟨b,off,l,T,hu,ha,hb,ka,kn,kc,l',h4,h5,h6⟩
 · cases h
 · refine .inr ⟨b,off,l,T,hu,ha,hb,?_⟩
   have:l.drop (off+(i+1)*6)=l':=by
     rw[show off+(i+1)*6=(off+i*6)+6 by omega,← List.drop_drop,h4];rfl
   rw[this];exact h6
theorem Mz{p:Nat→Prop}(h0:p 0)(h:∀m,p m→p (m+1))(m:Nat):p m:=by
 induction m with
 |zero=>exact h0
 |succ m ih=>exact h m ih
end Go.SP
namespace Go.SW
open Go.RowKit
theorem cJ{P:Program}{σ:Bo}{w:World}{ty T:TypeId}{x y:Operand}{e:TypeId}{size bytes:Nat}{zl:List Value}(hT:Oq P T=some (e,size,bytes,zl)){a b:Option Addr}{c k cs:Nat}
   (hs:ev σ x=some (.slice a k c)) (hx:ev σ y=some (.slice b 0 cs)) (hk:k≤c):AO P σ (.call {callee:=.builtin .append,args:=#[x,y],argTypes:=#[T,T]}) ty w (.slice a k c) w:=by
 unfold Oq at hT
 split at hT
 · rename_i e' hu
   split at hT
   · rename_i i hi
     intro ρ _ _ _ _ hρ
     have h0:(Builtin.firstCells i.size 0 (.slice b 0 cs)).run P w=.ok #[] w:=by
       cases b with
       |none=>simp[Builtin.firstCells]
       |some q=>simp only[Builtin.firstCells,Nat.zero_mul];exact run_loadCells_list (P:=P) w q [] (fun j v hj=>by simp at hj)
     have h1:∀q:Addr,(storeCells q []).run P w=.ok () w:=fun q=>by simp[storeCells]
     cases a with
     |none=>simp[execOp,resolve,invoke,builtin,hρ _ _ hs,hρ _ _ hx,Builtin.append_,run_underlying hu,sizeOf,typeInfo,hi,Builtin.lenOf,hk,h0]
     |some q=>simp[execOp,resolve,invoke,builtin,hρ _ _ hs,hρ _ _ hx,Builtin.append_,run_underlying hu,sizeOf,typeInfo,hi,Builtin.lenOf,hk,h0,h1]
   · cases hT
 · cases hT
end Go.SW
namespace Go.SP
open Go.SW Go.RowKit
theorem H4.lt{U:Nat→Prop}{w:World}{a:Option Addr}{n c:Nat}{x:Nd}(h:H4 U w a n c x):H4 (fun b=>U b∧b<w.heap.size) w a n c x:=H4.imp h fun _ hu hl=>⟨⟨hu,hl⟩,rfl⟩
theorem H4.grow{U:Nat→Prop}{w w':World}{a q q':Option Addr}{n c:Nat}{x:Nd}(h:H4 U w a n c x)(hG:G4 q w q' w')(hne:∀b,U b→some b≠rb q):H4 U w' a n c x :=
 H4.imp h fun b hu hl=>⟨hu,hG.block b hl (hne b hu)⟩
theorem G4.refl(a:Option Addr)(w:World):G4 a w a w:=⟨rfl,rfl,rfl,Nat.le_refl _,fun _ _ _=>rfl,.inl rfl⟩
section
variable{P:Program}{n:Nat}{Q:Bk}{σ:Bo}{ds:List Deferred}{w w0 w1:World}{ops:Array Oper}{ty T:TypeId}{pos:String}{af:Array Edge}{rest:List Oper}{d:Nat}{x y:Operand}
end
end Go.SP
namespace Go.Proofs.YthofplgbhecdcaaGreatDoor
open Go.SW Go.SP Go.RowKit
def uW:Ea:=⟨[],[(52,56,4)],[],[],[(56,true,4)],[(56,[.int .i64 0,.int .i64 0,.string ⟨#[]⟩,.slice none 0 0])],[(56,[(0,1),(1,1),(2,1),(3,1)])],[]⟩
theorem Sh:uW.Ok Tryz.prog:=⟨trivial,(And.intro DI trivial),trivial,trivial,(And.intro AJ trivial),(And.intro DD trivial),(And.intro RM trivial),trivial⟩
theorem Nl(w:World)(f:Fq)(hv:Vl w f)(t:T1)(a:Option Addr)(c:Nat)(hb:t.bnd)(hT:Ah w f t.kids a c) :
  BF Tryz.prog 70 #[tV t a c] w (BV (α:=Option Addr×Nat) (fun x=>tV t x.1 x.2) (fun _=>True) (fun x=>[fun w f=>Ah w f t.kids x.1 x.2]) w f) :=
 Mz (p:=lS Tryz.prog 70) (fun w f hv t a c h=>by omega) (fun m ih w f hv t a c h1 h2 h3=>YD m ih w f hv t a c h1 h2 h3) (t.kids.size+1) w f hv t a c (Nat.lt_succ_self _) hb hT
theorem Tq(w:World)(f:Fq)(hv:Vl w f)(k:Ty)(a:Option Addr)(c:Nat)(hl:k.len≤200000)(hT:Ah w f k a c) :
  BF Tryz.prog 50 #[.slice a k.len c] w (BV (α:=Option Addr×Nat) (fun x=>.slice x.1 k.len x.2) (fun _=>True) (fun x=>[fun w f=>Ah w f k x.1 x.2]) w f):=by
 refine Dg (X:=X0 w f) (H:=[]) (R:=[]) (B:=[]) (Fs:=[fun w f=>Ah w f k a c]) (f:=f) Tryz.func50 rfl rfl rfl (C7 hv ⟨hT,trivial⟩ ⟨Ah.mono,trivial⟩)<|go Sh 12 [] (fun _=>AZ 4 rfl rfl (fun h1=>?_) (fun h1=>?_))
 obtain rfl:a=none:=by cases a with|none=>rfl|some q=>cases h1
 obtain rfl:k=.nil:=by rcases hT.2 with h|⟨_,_,h,_⟩;exact h;cases h
 exact go Sh 8 [] (fun _=>AY (Dz rfl rfl) (fun w f hM=>⟨(none,0),f,rfl,trivial,hM.exm,⟨Ah.nil _ _ _ _,trivial⟩⟩))
 refine go Sh 5 [] (fun _=>uV rfl rfl DI fun br1=>go Sh 1 [] (fun _=>?_))
 rcases Nat.eq_zero_or_pos k.len with h0|h0
 obtain rfl:=Ty.len0 h0
 exact Fh rfl rfl (fun w f hM=>cJ Dq rfl rfl (Nat.le_refl _))<|go Sh 4 [] (fun _=>AY (Dz rfl rfl) (fun w f hM=>⟨(some ⟨br1,0,none⟩,0),f,rfl,trivial,hM.exm,⟨Ah.nil _ _ _ _,trivial⟩⟩))
 refine CB (α:=Nat×Nat×List Value) (fun x=>a=some ⟨x.1,x.2.1,none⟩∧(∀v∈x.2.2,v.oneCell'=true)∧x.2.2.length=k.len*4) (fun x=>[⟨x.1,x.2.1,x.2.2⟩]) (fun x=>[fun w f=>Bl w f k x.2.2]) (fun w f hM=>let ⟨x,h1,h2,h3⟩:=Ah.cells (k:=k) (a:=a) (c:=c) hM.f0 h0;⟨x,h1,(oE h2),A1.mem ⟨h3,trivial⟩⟩) (fun x=>Af.mem ⟨Bl.mono,trivial⟩) ?_
 rintro⟨eb,eo,xs⟩ ⟨rfl,h1c,hxl⟩
 exact WI 0 0 rfl rfl Dq rfl rfl rfl rfl rfl rfl hxl h1c h0 (fun _ _=>rfl) oM oM fun a2 c2=>go Sh 4 [] (fun _=>AY (Dz rfl rfl) (fun w f hM=>let ⟨f2,hM2,hF⟩:=MV hM hM.f0 h0;⟨(a2,c2),f2,by simp only[Nat.zero_add],trivial,hM2.exm,⟨hF,trivial⟩⟩))
theorem CU(w:World)(f:Fq)(hv:Vl w f)(tx:List UInt8)(k:Ty)(a:Option Addr)(c:Nat)(hl:k.len≤200000)(hT:Ah w f k a c) :
  BF Tryz.prog 20 #[S tx,.slice a k.len c] w (BV (α:=Option Addr×Nat) (fun x=>tV (.con tx k) x.1 x.2) (fun _=>True) (fun x=>[fun w f=>Ah w f k x.1 x.2]) w f):=by
 refine Dg (X:=X0 w f) (H:=[]) (R:=[]) (B:=[]) (Fs:=[fun w f=>Ah w f k a c]) (f:=f) Tryz.func20 rfl rfl rfl (C7 hv ⟨hT,trivial⟩ ⟨Ah.mono,trivial⟩)<|go Sh 9 [] (fun b1=>fun _=>B8 rfl rfl (eC Y2 rfl rfl) (fun w f hM=>Tq w f hM.vl k a c hl hM.f0) (fun x=>⟨Ah.mono,trivial⟩) ?_)
 rintro⟨a2,c2⟩ -
 exact go Sh 5 [0] (y<|fun _=>AY (fun w f hM=>AI rfl (Ac rfl AJ hM.k0 rfl)) (fun w f hM=>⟨(a2,c2),f,rfl,trivial,hM.exm,⟨hM.f0,trivial⟩⟩))
def tX:Ea:=⟨[(56,0,0),(130,0,0),(56,1,1)],[],[],[],[(3,false,1),(56,true,4)],[(56,[.int .i64 0,.int .i64 0,.string ⟨#[]⟩,.slice none 0 0])],[],[]⟩
theorem Ic:tX.Ok Tryz.prog:=⟨(And.intro HI (And.intro Sr (And.intro IJ trivial))),trivial,trivial,trivial,(And.intro CZ (And.intro AJ trivial)),(And.intro DD trivial),trivial,trivial⟩
theorem Et(w:World)(f:Fq)(hv:Vl w f)(sb mb:Nat)(s:BJ)(fr pr:Int)(hS:BL 130 sb mb s fr pr w f)(hw:Ji s)(t:T1)(a:Option Addr)(c:Nat)(hb:t.bnd)(hT:Ah w f t.kids a c) :
  BF Tryz.prog 99 #[.pointer (some ⟨sb,0,none⟩),tV t a c] w (BV (α:=Option Addr×Nat) (fun x=>tV (Ak s t) x.1 x.2) (fun _=>True) (fun x=>[fun w f=>Ah w f (Ak s t).kids x.1 x.2]) w f):=by
 obtain⟨hSb,es,hSm,hSe⟩:=hS
 have hdis:=Gj.dis hSe hw
 have hlb:=hSb.lt
 have hlm:=hSm.lt
 refine Dg (X:=X0 w f) (H:=[]) (R:=[]) (B:=[]) (Fs:=[fun w f=>Ah w f t.kids a c]) (f:=f) Tryz.func99 rfl rfl rfl (C7 hv ⟨hT,trivial⟩ ⟨Ah.mono,trivial⟩)<|go Ic 8 [] (fun b1=>fun b2=>fun _=>?_)
 refine H9 (α:=T1×Option Addr×Nat) (fun x=>Ez s x.1) (fun x=>Ak s t=Ak s x.1∧x.1.bnd) (fun x=>(E3 0 (.pointer (some ⟨sb,0,none⟩)) 3 (.pointer (some ⟨b1,0,none⟩)) 4 (.pointer (some ⟨b2,0,none⟩)))) (fun x=>X0 w f) (fun x=>[⟨b2,[.int .i64 0,.int .i64 0,.string ⟨#[]⟩,.slice none 0 0],56,true⟩,⟨b1,tC x.1 x.2.1 x.2.2,56,true⟩]) (fun x=>[]) (fun x=>[]) (fun x=>[fun w f=>Ah w f x.1.kids x.2.1 x.2.2]) (t,a,c) ⟨rfl,hb⟩ lE (fun w f hM=>hM) ?_
 rintro⟨u,ua,uc⟩ ⟨hh,hub⟩
 dsimp only at hh hub ⊢
 refine go Ic 8 [1] (y<|fun _=>AZ 9 rfl rfl (fun h1=>?_) (fun h1=>?_))
 refine go Ic 5 [] (fun _=>?_)
 obtain⟨n,rfl⟩:=ED h1
 cases hl:Cm s n with
 |none =>
  have hlk:=(Gj.look hSe n).1 hl
  refine Ml (fun w=>AQ w sb [.map (some mb),.int .i64 fr,.int .i64 pr] 130∧Ci Fp w mb es) (fun w2 f2 _ hE=>⟨(hE.stp.block sb hlb (fun h=>h)).trans hSb,hSm.heap (hE.stp.block mb hlm (fun h=>h))⟩) [0,1] Ap (rd [0,1,2,3,4,5,6,7,8,9] (.br 10 (.br 11 (.rd 12 .fin) .fin) .fin)) rfl kR kR kR (fun _ _ _ _ _ h=>h)<|AA Ic 3 [] (fun _=>HN rfl rfl rfl (fun w hK=>Al rfl Ux hK.2.2.1 rfl)<|AA Ic 2 [1] (y<|fun _=>HN rfl rfl rfl (fun w hK=>KE (K:=Fp) (a:=n) rfl rfl SX O1 ND hK.2.2.2 hdis hlk)<|AA Ic 3 [] (fun _=>Ag rfl ?_ Ai)))
  refine go Ic 2 [] (fun b3=>fun _=>Bh [1,2] (fun w2 f2 _ hE=>⟨(hE.stp.block sb hlb (fun h=>h)).trans hSb,hSm.heap (hE.stp.block mb hlm (fun h=>h))⟩) rfl (fun _ h=>h)<|Ag rfl ?_ Ai)
  refine go Ic 2 [0] (y<|fun _=>Bh [1,2] (fun w2 f2 _ hE=>⟨(hE.stp.block sb hlb (fun h=>h)).trans hSb,hSm.heap (hE.stp.block mb hlm (fun h=>h))⟩) rfl (fun _ h=>h)<|AA Ic 1 [] (fun _=>B3<|go Ic 12 [] (fun _=>Hc<|go Ic 9 [2,1] (y<|y<|fun _=>?_))))
  have hfin:Ak s t=.var n:=by rw[hh,ET hl]
  exact AY (fun w f hM=>AI rfl (Ac rfl AJ hM.k1 rfl)) (fun w f hM=>⟨(ua,uc),f,(by show _=tV (Ak s t) ua uc;rw[hfin]),trivial,hM.exm,⟨by show Ah w f (Ak s t).kids ua uc;rw[hfin];exact hM.f0,trivial⟩⟩)
 |some t2 =>
  refine CB (α:=Option Addr×Nat) (fun x=>FC es n=some (tV t2 x.1 x.2)) (fun x=>[]) (fun x=>[fun w f=>Ah w f t2.kids x.1 x.2]) (fun w f hM=>let ⟨a2,c2,h1,h2⟩:=(Gj.look hSe n).2 t2 hl;⟨(a2,c2),h1,nE,A1.mem ⟨Ah.mono _ _ _ _ h2 hM.ent,trivial⟩⟩) (fun x=>Af.mem ⟨Ah.mono,trivial⟩) ?_
  rintro⟨a2,c2⟩ hlk
  refine Ml (fun w=>AQ w sb [.map (some mb),.int .i64 fr,.int .i64 pr] 130∧Ci Fp w mb es) (fun w2 f2 _ hE=>⟨(hE.stp.block sb hlb (fun h=>h)).trans hSb,hSm.heap (hE.stp.block mb hlm (fun h=>h))⟩) [0,1] Ap (rd [0,1,2,3,4,5,6,7,8,9] (.br 10 (.br 11 (.rd 12 .fin) .fin) .fin)) rfl kR kR kR (fun _ _ _ _ _ h=>h)<|AA Ic 3 [] (fun _=>HN rfl rfl rfl (fun w hK=>Al rfl Ux hK.2.2.1 rfl)<|AA Ic 2 [1] (y<|fun _=>HN rfl rfl rfl (fun w hK=>KJ (K:=Fp) (a:=n) rfl rfl SX O1 ND hK.2.2.2 hdis hlk)<|AA Ic 3 [] (fun _=>Ag rfl ?_ Ai)))
  refine go Ic 2 [] (fun b4=>fun _=>Bh [1,2] (fun w2 f2 _ hE=>⟨(hE.stp.block sb hlb (fun h=>h)).trans hSb,hSm.heap (hE.stp.block mb hlm (fun h=>h))⟩) rfl (fun _ h=>h)<|Ag rfl ?_ Ai)
  exact go Ic 2 [0] (y<|fun _=>Bh [1,2] (fun w2 f2 _ hE=>⟨(hE.stp.block sb hlb (fun h=>h)).trans hSb,hSm.heap (hE.stp.block mb hlm (fun h=>h))⟩) rfl (fun _ h=>h)<|AA Ic 1 [] (fun _=>B3<|go Ic 16 [0,2] (y<|y<|fun _=>Eb ((t2,a2,c2)) (ZP hw hl) ⟨by rw[hh,Uo hw hl],NI hw hl⟩ lE (fun w f hM=>⟨_,hM.less (List.sublist_cons_self _ _) sR nE (mR [0])⟩))))
 refine go Ic 3 [] (fun _=>Hc<|go Ic 9 [1,0] (y<|y<|fun _=>?_))
 obtain⟨tx,k,rfl⟩:=FR h1
 have hfin:Ak s t=.con tx k:=by rw[hh,GV]
 exact AY (fun w f hM=>AI rfl (Ac rfl AJ hM.k0 rfl)) (fun w f hM=>⟨(ua,uc),f,(by show _=tV (Ak s t) ua uc;rw[hfin]),trivial,hM.exm,⟨by show Ah w f (Ak s t).kids ua uc;rw[hfin];exact hM.f0,trivial⟩⟩)
def uJ:Ea:=⟨[(56,0,0),(56,3,3)],[(52,56,4)],[],[],[(3,false,1),(56,true,4),(52,false,1)],[(56,[.int .i64 0,.int .i64 0,.string ⟨#[]⟩,.slice none 0 0]),(3,[.int .i64 0])],[],[]⟩
theorem Iv:uJ.Ok Tryz.prog:=⟨(And.intro HI (And.intro F4 trivial)),(And.intro DI trivial),trivial,trivial,(And.intro CZ (And.intro AJ (And.intro H0 trivial))),(And.intro DD (And.intro W1 trivial)),trivial,trivial⟩
theorem Sa(w:World)(f:Fq)(hv:Vl w f)(nb:Nat)(n:Int)(hn:0≤n∧n≤100000)(hC:Kl nb n w f)(hf:f nb=0)(t:T1)(a:Option Addr)(c:Nat) :
  BF Tryz.prog 108 #[tV t a c,.pointer (some ⟨nb,0,none⟩)] w (Fl (α:=Unit) (fun _=>.bool (decide (n+1≤1000))) (fun _=>True) (fun b=>b=nb) (fun _=>Kl nb (n+1)) (fun _=>[]) w f):=by
 exact Dg (X:=⟨fun b=>b=nb,fun _=>False,fun _ _=>True,w,f⟩) (H:=[⟨nb,[.int .i64 n],3,false⟩]) (R:=[]) (B:=[]) (Fs:=[]) (f:=f) Tryz.func108 rfl rfl rfl (oT hv hC hf trivial trivial)<|go Iv 21 [1,1,1] (fun b1=>y<|And.intro ⟨oM,oM⟩<|y<|y<|fun _=>AY (Dz rfl rfl) (fun w f hM=>⟨(),f,rfl,trivial,hM.exm,hM.blk _ lC,trivial⟩))
theorem Tc(k:Nat)(ih:∀j,j<k→mF Tryz.prog 107 130 108 j)(w:World)(f:Fq)(hv:Vl w f)(sb mb:Nat)(s:BJ)(fr pr:Int)(nb:Nat)(hS:BL 130 sb mb s fr pr w f)(hw:Ji s)(hns:sb≠nb)(hnm:mb≠nb)(hf:f nb=0)(hC:Kl nb (1000-(k:Int)) w f)(hk:k≤1000)(t:T1)(a:Option Addr)(c:Nat)(hb:t.bnd)(hT:Ah w f t.kids a c) :
  BF Tryz.prog 107 #[.pointer (some ⟨sb,0,none⟩),tV t a c,.func (.func 108) #[] #[.pointer (some ⟨nb,0,none⟩)]] w (Fl (α:=Int) (fun _=>.bool (BA s k t.one).isSome) (fun x=>∀j,BA s k t.one=some j→x=1000-(j:Int)) (fun b=>b=nb) (fun x=>Kl nb x) (fun _=>[]) w f):=by
 have hkb:=(C8 hw hb).1
 refine Dg (X:=⟨fun b=>b=nb,fun b=>b=nb,Kl nb (1000-(k:Int)),w,f⟩) (H:=[]) (R:=[]) (B:=[]) (Fs:=[fun w f=>Ah w f t.kids a c]) (f:=f) Tryz.func107 rfl rfl rfl (Zs (M:=fun b=>b=nb) (I:=Kl nb (1000-(k:Int))) hv hC (Kl.stab rfl) (fun b hb=>by cases hb;exact⟨AQ.lt hC,hf⟩) ⟨hT,trivial⟩ ⟨Ah.mono,trivial⟩)<|go Iv 10 [0] (fun b1=>y<|fun _=>B8 rfl rfl (eC IN rfl rfl) (fun w f hM=>Et w f hM.vl sb mb s fr pr (BL.keep hS hM.exm hM.ent hns hnm) hw t a c hb hM.f0) (fun x=>⟨Ah.mono,trivial⟩) ?_)
 rintro⟨ha,hc⟩ -
 refine go Iv 8 [0,0] (y<|y<|fun _=>Ov (XX:=fun _ _=>False) rfl rfl (fun _=>Uk (caps:=[.pointer (some ⟨nb,0,none⟩)]) bO rfl rfl) (fun w f hM=>(Sa w f hM.vl nb (1000-(k:Int)) oM hM.res (hM.mi nb rfl).2.1 (Ak s t) ha hc).retP) (fun _=>Kl.stab rfl) (fun _=>trivial) (fun _ _ _ _ _ h=>h.elim) ?_)
 rintro⟨⟩ -
 refine go Iv 3 [] (fun _=>AZ 15 rfl rfl (fun h1=>?_) (fun h1=>?_))
 replace h1:=FL h1
 refine go Iv 8 [] (fun _=>?_)
 obtain rfl:k=0:=by have:=of_decide_eq_false h1;omega
 have hres:=Lj s t
 exact AY (Dz rfl rfl) (fun w f hM=>⟨_,f,(by rw[hres];rfl),(fun j h=>by rw[hres] at h;cases h),hM.exm,hM.res,trivial⟩)
 replace h1:=Gn h1
 refine go Iv 5 [] (fun _=>?_)
 obtain⟨k2,rfl⟩:∃k2,k=k2+1:=⟨k-1,by have:=of_decide_eq_true h1;omega⟩
 refine go Iv 6 [0] (y<|fun _=>AZ 18 rfl rfl (fun h2=>?_) (fun h2=>?_))
 refine go Iv 10 [0] (y<|fun _=>?_)
 refine H9 (α:=Nat×Ty×Nat) (fun x=>x.2.1.len) (fun x=>x.1+x.2.1.len=(Ak s t).kids.len∧BA s k2 (Ak s t).kids=BA s x.2.2 x.2.1∧x.2.2≤k2∧x.2.1.bnd) (fun x=>(E6 0 (.pointer (some ⟨sb,0,none⟩)) 2 (.func (.func 108) #[] #[.pointer (some ⟨nb,0,none⟩)]) 4 (.pointer (some ⟨b1,0,none⟩)) 20 (.slice ha (Ak s t).kids.len hc) 21 (.int .i64 ((Ak s t).kids.len:Int)) 22 (.int .i64 (x.1:Int)))) (fun x=>⟨fun b=>b=nb,fun b=>b=nb,Kl nb (1000-(x.2.2:Int)),w,f⟩) (fun x=>[⟨b1,tC (Ak s t) ha hc,56,true⟩]) (fun x=>[]) (fun x=>[]) (fun x=>[fun w f=>AW w f ha x.1 x.2.1]) (0,(Ak s t).kids,k2) ⟨by simp,rfl,Nat.le_refl _,(C8 hw hb).2⟩ lE (fun w f hM=>(by have hM2:=hM.more (B':=[]) (F':=[fun w f=>AW w f ha 0 (Ak s t).kids]) nE (A1.mem ⟨Ah.at hM.f0,trivial⟩) (Af.mem ⟨AW.mono,trivial⟩) |>.less (H':=[⟨b1,tC (Ak s t) ha hc,56,true⟩]) (R':=[]) (B':=[]) (F':=[fun w f=>AW w f ha 0 (Ak s t).kids]) sR sR nE (mR [0]);rw[show (1000-((k2+1:Nat):Int))+1=1000-(k2:Int) by omega] at hM2;exact hM2)) ?_
 rintro⟨i,r,j⟩ ⟨hi,hrem,hjk,hrb⟩
 dsimp only at hi hrem hjk hrb ⊢
 refine go Iv 6 [] (fun _=>AZ 23 rfl rfl (fun h3=>?_) (fun h3=>?_))
 refine go Iv 6 [] (fun _=>?_)
 have hil:i<(Ak s t).kids.len:=by have:=of_decide_eq_true h3;omega
 obtain⟨t2,r,rfl⟩:=Ty.cases1 r oM
 rw[T1.len_cons] at hi
 refine CB (α:=Nat×Nat×Option Addr×Nat) (fun x=>ha=some ⟨x.1,x.2.1,none⟩) (fun x=>[⟨x.1,x.2.1+i*4,tC t2 x.2.2.1 x.2.2.2⟩]) (fun x=>[fun w f=>Ah w f t2.kids x.2.2.1 x.2.2.2,fun w f=>AW w f ha (i+1) r]) (fun w f hM=>let ⟨b,off,ka,kc,h1,h2,h3,h4⟩:=AW.head hM.f0;⟨(b,off,ka,kc),h1,(oE h2),A1.mem ⟨h3,h4,trivial⟩⟩) (fun x=>Af.mem ⟨Ah.mono,AW.mono,trivial⟩) ?_
 rintro⟨eb,eo,ka,kc⟩ rfl
 refine go Iv 12 [100,0,0,0] (And.intro oM<|y2<|fun b2=>y<|y<|fun _=>Ov (XX:=fun _ _=>False) rfl rfl (eC M8 rfl rfl) (fun w f hM=>(ih j oM w f hM.vl sb mb s fr pr nb (BL.keep hS hM.exm hM.ent hns hnm) hw hns hnm (hM.mi nb rfl).2.1 hM.res oM t2 ka kc (T1.bnd_cons.1 hrb).1 hM.f0).retP) (fun _=>Kl.stab rfl) (fun _=>trivial) (fun _ _ _ _ _ h=>h.elim) ?_)
 rintro cx hcx
 refine go Iv 3 [] (fun _=>AZ 30 rfl rfl (fun h4=>?_) (fun h4=>?_))
 replace h4:=FL h4
 have hj2:BA s j t2.one=none:=by cases hx:BA s j t2.one with|none=>rfl|some q=>rw[hx] at h4;cases h4
 refine go Iv 9 [] (fun _=>cU<|go Iv 2 [] (fun _=>?_))
 have hone:=Kh s k2 t
 have hres:BA s (k2+1) t.one=none:=by rw[hone,hrem,Jj,hj2];rfl
 exact AY (Dz rfl rfl) (fun w f hM=>⟨_,f,(by rw[hres];rfl),(fun j h=>by rw[hres] at h;cases h),hM.exm,hM.res,trivial⟩)
 replace h4:=Gn h4
 obtain⟨j2,hj2⟩:=Option.isSome_iff_exists.1 h4
 exact go Iv 8 [] (And.intro ⟨oM,oM⟩<|fun _=>Eb ((i+1,r,j2)) (show r.len<(t2.cons r).len by rw[T1.len_cons];omega) ⟨show i+1+r.len=(Ak s t).kids.len by omega,show BA s k2 (Ak s t).kids=BA s j2 r by rw[hrem,Jj,hj2];rfl,show j2≤k2 by have:=E1 s j t2.one j2 hj2;omega,(T1.bnd_cons.1 hrb).2⟩ lE (fun w f hM=>⟨_,by have hM2:=hM.less (H':=[⟨b1,tC (Ak s t) (some ⟨eb,eo,none⟩) hc,56,true⟩]) (R':=[]) (B':=[]) (F':=[fun w f=>AW w f (some ⟨eb,eo,none⟩) (i+1) r]) (List.sublist_cons_self _ _) sR nE (mR [1]);rw[hcx j2 hj2] at hM2;exact hM2⟩))
 refine go Iv 3 [] (fun _=>Hc<|go Iv 8 [] (fun _=>?_))
 have hone:=Kh s k2 t
 obtain rfl:r=.nil:=Ty.len0 (by have:=of_decide_eq_false h3;omega)
 have hres:BA s (k2+1) t.one=some j:=by rw[hone,hrem];cases j <;> rfl
 exact AY (Dz rfl rfl) (fun w f hM=>⟨_,f,(by rw[hres];rfl),(fun q h=>by rw[hres] at h;cases h;rfl),hM.exm,hM.res,trivial⟩)
 refine go Iv 9 [] (fun _=>?_)
 have hone:=Kh s k2 t
 obtain⟨n,hv2⟩:=ED (t:=Ak s t) (by have:=h2;simpa using this)
 have hres:BA s (k2+1) t.one=some k2:=by rw[hone,hv2];cases k2 <;> rfl
 exact AY (Dz rfl rfl) (fun w f hM=>⟨_,f,(by rw[hres];rfl),(fun q h=>by rw[hres] at h;cases h;omega),hM.exm,hM.res,trivial⟩)
theorem U7:∀k,mF Tryz.prog 107 130 108 k:=fun k=>Nat.strongRecOn k fun k ih w f hv sb mb s fr pr nb hS hw hns hnm hf hC hk t a c hb hT=>Tc k ih w f hv sb mb s fr pr nb hS hw hns hnm hf hC hk t a c hb hT
theorem NH(w:World)(f:Fq)(hv:Vl w f)(sb mb:Nat)(s:BJ)(fr pr:Int)(hS:BL 130 sb mb s fr pr w f)(hw:Ji s)(t:T1)(a:Option Addr)(c:Nat)(hb:t.bnd)(hT:Ah w f t.kids a c) :
  BF Tryz.prog 82 #[.pointer (some ⟨sb,0,none⟩),tV t a c] w (BV (α:=Unit) (fun _=>.bool (Fv s t)) (fun _=>True) (fun _=>[]) w f):=by
 have hlb:=hS.1.lt
 have hlm:mb<w.heap.size:=by obtain⟨_,es,h,_⟩:=hS;exact h.lt
 refine Dg (X:=X0 w f) (H:=[]) (R:=[]) (B:=[]) (Fs:=[fun w f=>Ah w f t.kids a c]) (f:=f) Tryz.func82 rfl rfl rfl (C7 hv ⟨hT,trivial⟩ ⟨Ah.mono,trivial⟩)<|go Iv 16 [0,1] (fun b1=>fun b2=>y<|y<|fun _=>Fh rfl rfl (fun w f hM=>P8 rfl)<|mY 0 rfl rfl<|Ky (fun w f hM=>(⟨fun e=>(hM.mi _ (.inr rfl)).2.2.elim (fun h=>absurd hlb (by rw[e];exact Nat.not_lt.2 h)) (fun h=>h),fun e=>(hM.mi _ (.inr rfl)).2.2.elim (fun h=>absurd hlm (by rw[e];exact Nat.not_lt.2 h)) (fun h=>h)⟩:sb≠b2∧mb≠b2)) fun hne=>Ov (α:=Int) (val:=fun _=>.bool (BA s 1000 t.one).isSome) (q:=fun _=>True) (I':=fun x w f=>True∧Kl b2 x w f) (F':=fun _=>[]) (XX:=fun _ _=>False) rfl rfl (eC M8 rfl rfl) (fun w f hM=>((U7 1000 w f hM.vl sb mb s fr pr b2 (BL.keep hS hM.exm hM.ent (fun h=>h) (fun h=>h)) hw hne.1 hne.2 (hM.mi _ (.inr rfl)).2.1 hM.res.2 (Nat.le_refl _) t a c hb hM.f0).mono fun v w2 ⟨x,f2,h1,h2,h3,h4,h5⟩=>⟨x,f2,h1,trivial,h3.mono (fun b hb=>.inr hb),⟨trivial,h4⟩,h5⟩).retP) (fun _=>(fun _ _ _ _ h hF hm=>⟨trivial,Kl.stab (MI:=fun b=>False∨b=b2) (.inr rfl) _ _ _ _ h.2 hF hm⟩)) (fun _=>trivial) (fun _ _ _ _ _ h=>h.elim) ?_)
 rintro cx -
 exact go Iv 4 [] (fun _=>AY (Dz rfl rfl) (fun w f hM=>⟨(),f,(by rw[Fv,Ev]),trivial,hM.exm,trivial⟩))
def uH:Ea:=⟨[(56,0,0),(56,1,1),(56,3,3)],[(52,56,4)],[],[],[(3,false,1),(56,true,4),(52,false,1)],[(56,[.int .i64 0,.int .i64 0,.string ⟨#[]⟩,.slice none 0 0])],[],[]⟩
theorem Ij:uH.Ok Tryz.prog:=⟨(And.intro HI (And.intro IJ (And.intro F4 trivial))),(And.intro DI trivial),trivial,trivial,(And.intro CZ (And.intro AJ (And.intro H0 trivial))),(And.intro DD trivial),trivial,trivial⟩
theorem T5(w:World)(f:Fq)(hv:Vl w f)(xb:Nat)(x:Int)(hB:AQ w xb [.int .i64 x] 3)(t:T1)(a:Option Addr)(c:Nat) :
  BF Tryz.prog 124 #[tV t a c,.pointer (some ⟨xb,0,none⟩)] w (BV (α:=Unit) (fun _=>.bool (Tz x t)) (fun _=>True) (fun _=>[]) w f):=by
 have hlx:=hB.lt
 refine Dg (X:=X0 w f) (H:=[]) (R:=[]) (B:=[]) (Fs:=[]) (f:=f) Tryz.func124 rfl rfl rfl (C7 hv trivial trivial)<|go Ij 12 [0] (fun b1=>y<|fun _=>AZ 7 rfl rfl (fun h1=>?_) (fun h1=>?_))
 refine go Ij 9 [] (fun _=>?_)
 cases t with
 |var m=>cases h1
 |con tx k=>exact AY (Dz rfl rfl) (fun w f hM=>⟨(),f,rfl,trivial,hM.exm,trivial⟩)
 refine go Ij 2 [0] (y<|fun _=>Fh rfl rfl (fun w f hM=>Al rfl CZ ((hM.stp.block xb hlx (fun h=>h)).trans hB) rfl)<|go Ij 6 [] (fun _=>?_))
 cases t with
 |var m=>exact AY (Dz rfl rfl) (fun w f hM=>⟨(),f,rfl,trivial,hM.exm,trivial⟩)
 |con tx k=>cases h1
theorem Rz(k:Nat)(ih:∀j,j<k→oY Tryz.prog 107 130 124 j)(w:World)(f:Fq)(hv:Vl w f)(sb mb:Nat)(s:BJ)(fr pr:Int)(xb:Nat)(x:Int)(hS:BL 130 sb mb s fr pr w f)(hw:Ji s)(hB:AQ w xb [.int .i64 x] 3)(t:T1)(a:Option Addr)(c jj:Nat)(hb:t.bnd)(hT:Ah w f t.kids a c)(hfin:BA s k t.one=some jj) :
  BF Tryz.prog 107 #[.pointer (some ⟨sb,0,none⟩),tV t a c,.func (.func 124) #[] #[.pointer (some ⟨xb,0,none⟩)]] w (BV (α:=Unit) (fun _=>.bool (CQ s x k t.one)) (fun _=>True) (fun _=>[]) w f):=by
 have hkb:=(C8 hw hb).1
 have hlx:=hB.lt
 obtain⟨k2,rfl⟩:∃q,k=q+1:=by cases k with|zero=>rw[Lj] at hfin;cases hfin|succ q=>exact⟨q,rfl⟩
 have hk3:BA s k2 (Ak s t).kids=some jj:=by rw[← Kh];exact hfin
 refine Dg (X:=X0 w f) (H:=[]) (R:=[]) (B:=[]) (Fs:=[fun w f=>Ah w f t.kids a c]) (f:=f) Tryz.func107 rfl rfl rfl (C7 hv ⟨hT,trivial⟩ ⟨Ah.mono,trivial⟩)<|go Ij 10 [0] (fun b1=>y<|fun _=>B8 rfl rfl (eC IN rfl rfl) (fun w f hM=>Et w f hM.vl sb mb s fr pr (BL.keep hS hM.exm hM.ent (fun h=>h) (fun h=>h)) hw t a c hb hM.f0) (fun x=>⟨Ah.mono,trivial⟩) ?_)
 rintro⟨ha,hc⟩ -
 refine go Ij 8 [0,0] (y<|y<|fun _=>B8 rfl rfl (fun _=>Uk (caps:=[.pointer (some ⟨xb,0,none⟩)]) ZS rfl rfl) (fun w f hM=>T5 w f hM.vl xb x ((hM.stp.block xb hlx (fun h=>h)).trans hB) (Ak s t) ha hc) (fun x=>trivial) ?_)
 rintro⟨⟩ -
 refine go Ij 3 [] (fun _=>AZ 15 rfl rfl (fun h1=>?_) (fun h1=>?_))
 replace h1:=FL h1
 refine go Ij 8 [] (fun _=>?_)
 have hres:CQ s x (k2+1) t.one=false:=by rw[HY,h1];rfl
 exact AY (Dz rfl rfl) (fun w f hM=>⟨(),f,(by rw[hres]),trivial,hM.exm,trivial⟩)
 replace h1:=Gn h1
 refine go Ij 11 [0] (y<|fun _=>AZ 18 rfl rfl (fun h2=>?_) (fun h2=>?_))
 refine go Ij 10 [0] (y<|fun _=>?_)
 refine H9 (α:=Nat×Ty×Nat) (fun y=>y.2.1.len) (fun y=>y.1+y.2.1.len=(Ak s t).kids.len∧BA s k2 (Ak s t).kids=BA s y.2.2 y.2.1∧y.2.2≤k2∧y.2.1.bnd∧CQ s x k2 (Ak s t).kids=CQ s x y.2.2 y.2.1) (fun y=>(E6 0 (.pointer (some ⟨sb,0,none⟩)) 2 (.func (.func 124) #[] #[.pointer (some ⟨xb,0,none⟩)]) 4 (.pointer (some ⟨b1,0,none⟩)) 20 (.slice ha (Ak s t).kids.len hc) 21 (.int .i64 ((Ak s t).kids.len:Int)) 22 (.int .i64 (y.1:Int)))) (fun y=>X0 w f) (fun y=>[⟨b1,tC (Ak s t) ha hc,56,true⟩]) (fun y=>[]) (fun y=>[]) (fun y=>[fun w f=>AW w f ha y.1 y.2.1]) (0,(Ak s t).kids,k2) ⟨by simp,rfl,Nat.le_refl _,(C8 hw hb).2,rfl⟩ lE (fun w f hM=>hM.more (B':=[]) (F':=[fun w f=>AW w f ha 0 (Ak s t).kids]) nE (A1.mem ⟨Ah.at hM.f0,trivial⟩) (Af.mem ⟨AW.mono,trivial⟩) |>.less (H':=[⟨b1,tC (Ak s t) ha hc,56,true⟩]) (R':=[]) (B':=[]) (F':=[fun w f=>AW w f ha 0 (Ak s t).kids]) sR sR nE (mR [0])) ?_
 rintro⟨i,r,j⟩ ⟨hi,hrem,hjk,hrb,hfr⟩
 dsimp only at hi hrem hjk hrb hfr ⊢
 refine go Ij 6 [] (fun _=>AZ 23 rfl rfl (fun h3=>?_) (fun h3=>?_))
 refine go Ij 6 [] (fun _=>?_)
 have hil:i<(Ak s t).kids.len:=by have:=of_decide_eq_true h3;omega
 obtain⟨t2,r,rfl⟩:=Ty.cases1 r oM
 rw[T1.len_cons] at hi
 refine CB (α:=Nat×Nat×Option Addr×Nat) (fun x=>ha=some ⟨x.1,x.2.1,none⟩) (fun x=>[⟨x.1,x.2.1+i*4,tC t2 x.2.2.1 x.2.2.2⟩]) (fun x=>[fun w f=>Ah w f t2.kids x.2.2.1 x.2.2.2,fun w f=>AW w f ha (i+1) r]) (fun w f hM=>let ⟨b,off,ka,kc,h1,h2,h3,h4⟩:=AW.head hM.f0;⟨(b,off,ka,kc),h1,(oE h2),A1.mem ⟨h3,h4,trivial⟩⟩) (fun x=>Af.mem ⟨Ah.mono,AW.mono,trivial⟩) ?_
 rintro⟨eb,eo,ka,kc⟩ rfl
 refine go Ij 12 [100,0,0,0] (And.intro oM<|y2<|fun b2=>y<|y<|fun _=>?_)
 obtain⟨j2,hj2⟩:∃q,BA s j t2.one=some q:=by cases hx:BA s j t2.one with|some q=>exact⟨q,rfl⟩|none=>rw[hrem,Jj,hx] at hk3;cases hk3
 refine B8 rfl rfl (eC M8 rfl rfl) (fun w f hM=>ih j oM w f hM.vl sb mb s fr pr xb x (BL.keep hS hM.exm hM.ent (fun h=>h) (fun h=>h)) hw ((hM.stp.block xb hlx (fun h=>h)).trans hB) t2 ka kc j2 (T1.bnd_cons.1 hrb).1 hM.f0 hj2) (fun x=>trivial) ?_
 rintro⟨⟩ -
 refine go Ij 3 [] (fun _=>AZ 30 rfl rfl (fun h4=>?_) (fun h4=>?_))
 replace h4:=FL h4
 refine go Ij 9 [] (fun _=>cU<|go Ij 2 [] (fun _=>?_))
 have hres:CQ s x (k2+1) t.one=false:=by rw[HY,hfr,Pm hj2,h4];simp
 exact AY (Dz rfl rfl) (fun w f hM=>⟨(),f,(by rw[hres]),trivial,hM.exm,trivial⟩)
 replace h4:=Gn h4
 exact go Ij 8 [] (And.intro ⟨oM,oM⟩<|fun _=>Eb ((i+1,r,j2)) (show r.len<(t2.cons r).len by rw[T1.len_cons];omega) ⟨show i+1+r.len=(Ak s t).kids.len by omega,show BA s k2 (Ak s t).kids=BA s j2 r by rw[hrem,Jj,hj2];rfl,show j2≤k2 by have:=E1 s j t2.one j2 hj2;omega,(T1.bnd_cons.1 hrb).2,show CQ s x k2 (Ak s t).kids=CQ s x j2 r by rw[hfr,Pm hj2,h4];rfl⟩ lE (fun w f hM=>⟨_,hM.less (H':=[⟨b1,tC (Ak s t) (some ⟨eb,eo,none⟩) hc,56,true⟩]) (R':=[]) (B':=[]) (F':=[fun w f=>AW w f (some ⟨eb,eo,none⟩) (i+1) r]) (List.sublist_cons_self _ _) sR nE (mR [1])⟩))
 refine go Ij 3 [] (fun _=>Hc<|go Ij 8 [] (fun _=>?_))
 obtain rfl:r=.nil:=Ty.len0 (by have:=of_decide_eq_false h3;omega)
 have hres:CQ s x (k2+1) t.one=true:=by rw[HY,h1,hfr];cases j <;> rfl
 exact AY (Dz rfl rfl) (fun w f hM=>⟨(),f,(by rw[hres]),trivial,hM.exm,trivial⟩)
 refine go Ij 9 [] (fun _=>?_)
 obtain⟨n,hv2⟩:=ED (t:=Ak s t) (by have:=h2;simpa using this)
 have hres:CQ s x (k2+1) t.one=true:=by rw[HY,h1,hv2];cases k2 <;> rfl
 exact AY (Dz rfl rfl) (fun w f hM=>⟨(),f,(by rw[hres]),trivial,hM.exm,trivial⟩)
theorem Sb:∀k,oY Tryz.prog 107 130 124 k:=fun k=>Nat.strongRecOn k fun k ih w f hv sb mb s fr pr xb x hS hw hB t a c j hb hT hj=>Rz k ih w f hv sb mb s fr pr xb x hS hw hB t a c j hb hT hj
def uN:Ea:=⟨[(130,0,0),(130,1,1)],[],[],[],[(56,true,4),(3,false,1)],[(56,[.int .i64 0,.int .i64 0,.string ⟨#[]⟩,.slice none 0 0])],[],[(59,130)]⟩
theorem K9:uN.Ok Tryz.prog:=⟨(And.intro Sr (And.intro Xy trivial)),trivial,trivial,trivial,(And.intro AJ (And.intro CZ trivial)),(And.intro DD trivial),trivial,(And.intro X8 trivial)⟩
theorem LG(w:World)(f:Fq)(hv:Vl w f)(sb mb:Nat)(s:BJ)(fr pr:Int)(hS:BL 130 sb mb s fr pr w f)(hf:f sb=0∧f mb=0)(hne:sb≠mb)(hw:Ji s)(n:Int)(hun:Cm s n=none)(t:T1)(a:Option Addr)(c:Nat)(hb:t.bnd)(hT:Ah w f t.kids a c) :
  BF Tryz.prog 100 #[.pointer (some ⟨sb,0,none⟩),.int .i64 n,tV t a c] w (Fl (α:=Unit) (fun _=>.int .i64 (J9 s n t).1) (fun _=>True) (Mu sb mb) (fun _=>BL 130 sb mb (J9 s n t).2 fr pr) (fun _=>[]) w f):=by
 refine Dg (X:=XS 130 sb mb s fr pr w f) (H:=[]) (R:=[]) (B:=[]) (Fs:=[fun w f=>Ah w f t.kids a c]) (f:=f) Tryz.func100 rfl rfl rfl (aM hv hS hf ⟨hT,trivial⟩ ⟨Ah.mono,trivial⟩)<|go K9 12 [0] (fun b1=>fun b2=>y<|fun _=>B8 rfl rfl (eC XM rfl rfl) (fun w f hM=>NH w f hM.vl sb mb s fr pr hM.res hw t a c hb hM.f0) (fun x=>trivial) ?_)
 rintro⟨⟩ -
 refine go K9 3 [] (fun _=>AZ 10 rfl rfl (fun h1=>?_) (fun h1=>?_))
 replace h1:=FL h1
 refine go K9 8 [] (fun _=>?_)
 have hr:=W0 (n:=n) h1
 exact AY (Dz rfl rfl) (fun w f hM=>⟨(),f,(by rw[hr]),trivial,hM.exm,(by rw[hr];exact hM.res),trivial⟩)
 replace h1:=Gn h1
 refine go K9 8 [0] (y<|fun _=>Fh rfl rfl (fun w f hM=>P8 rfl) ?_)
 obtain⟨j,hj⟩:∃j,BA s 1000 t.one=some j:=by have h9:=h1;rw[Fv,Ev] at h9;exact Option.isSome_iff_exists.1 h9
 refine B8 rfl rfl (eC M8 rfl rfl) (fun w f hM=>Sb 1000 w f hM.vl sb mb s fr pr b1 n hM.res hw hM.k1 t a c j hb hM.f0 hj) (fun x=>trivial) ?_
 rintro⟨⟩ -
 refine go K9 3 [] (fun _=>AZ 15 rfl rfl (fun h2=>?_) (fun h2=>?_))
 replace h2:=FL h2
 refine go K9 8 [] (fun _=>?_)
 have hr:=Zl h1 h2
 exact AY (Dz rfl rfl) (fun w f hM=>⟨(),f,(by rw[hr]),trivial,hM.exm,(by rw[hr];exact hM.res),trivial⟩)
 replace h2:=Gn h2
 refine go K9 4 [] (fun _=>mN (bD 130 sb mb s fr pr) (fun w f h=>let ⟨h1,es,h2,h3⟩:=h;⟨es,h1,h2,h3⟩) (fun _=>bD.stab (.inl rfl) (.inr rfl)) ?_)
 intro es
 refine Ky (fun w f hM=>(⟨Gj.dis hM.res.2.2 hw,(Gj.look hM.res.2.2 n).1 hun⟩:KP es∧FC es n=none)) fun hes=>Ml (fun w=>AQ w sb [.map (some mb),.int .i64 fr,.int .i64 pr] 130) (fun w f h _=>h.1) [0,1] Ap (rd [0,1,2,3,4,5] (.br 6 .fin .fin)) rfl kR kR kR (fun _ _ _ _ _ h=>h)<|AA K9 3 [] (fun _=>HN rfl rfl rfl (fun w hK=>Al rfl Ux hK.2.2 rfl)<|AA K9 2 [1,0] (y<|y<|fun _=>Ag rfl ?_ Ai))
 refine ZG (K:=Fp) (a:=n) (l:=es) (I':=BL 130 sb mb ((n,t)::s) fr pr) rfl rfl rfl rfl SX O1 (.inr rfl) hes.1 hes.2 (fun w f h=>h.2.1) (fun w f w2 h hM hC hm=>⟨(hC.block sb hne).trans h.1,_,hm,a,c,es,rfl,Ah.mono _ _ _ _ hM.f0 (hC.fle (hM.mi mb (.inr rfl)).2.1),Gj.mono (hC.fle (hM.mi mb (.inr rfl)).2.1) s es h.2.2⟩) (BL.stab (.inl rfl) (.inr rfl))<|go K9 1 [] (fun _=>Bh [0,1] (fun w f h _=>h.1) rfl (fun _ h=>h)<|B3<|go K9 7 [] (fun _=>?_))
 have hr:=XJ h1 h2
 exact AY (Dz rfl rfl) (fun w f hM=>⟨(),f,(by rw[hr]),trivial,hM.exm,(by rw[hr];exact hM.res),trivial⟩)
theorem Ng(w:World)(f:Fq)(hv:Vl w f)(sb mb:Nat)(s:BJ)(fr pr:Int)(hS:BL 130 sb mb s fr pr w f)(hf:f sb=0∧f mb=0)(hne:sb≠mb)  (hfr:0≤fr∧fr<1000000000000) :
  BF Tryz.prog 55 #[.pointer (some ⟨sb,0,none⟩)] w (Fl (α:=Unit) (fun _=>tV (.var (fr+1)) none 0) (fun _=>True) (Mu sb mb) (fun _=>BL 130 sb mb s (fr+1) pr) (fun _=>[]) w f):=by
 refine Dg (X:=XS 130 sb mb s fr pr w f) (H:=[]) (R:=[]) (B:=[]) (Fs:=[]) (f:=f) Tryz.func55 rfl rfl rfl (aM hv hS hf trivial trivial)<|go K9 20 [] (fun b1=>fun _=>Fh rfl rfl (fun w f hM=>Al rfl CZ hM.res.1 rfl)<|go K9 3 [] (And.intro ⟨oM,oM⟩<|fun _=>ZD (b:=sb) (I':=BL 130 sb mb s (fr+1) pr) rfl rfl rfl rfl CZ rfl rfl rfl (.inl rfl) (fun w f h=>h.1) (fun w f w2 h hM hC hb=>⟨hb,let ⟨_,es,h2,h3⟩:=h;⟨es,h2.heap (hC.block mb (fun e=>hne e.symm)),Gj.mono (hC.fle (hM.mi sb (.inl rfl)).2.1) s es h3⟩⟩) (BL.stab (.inl rfl) (.inr rfl))<|go K9 7 [] (fun _=>Fh rfl rfl (fun w f hM=>Al rfl CZ hM.res.1 rfl)<|B8 rfl rfl (eC Hp rfl rfl) (fun w f hM=>Eg w f hM.vl (fr+1)) (fun x=>trivial) ?_)))
 rintro⟨⟩ -
 exact go K9 4 [0] (y<|fun _=>AY (fun w f hM=>AI rfl (Ac rfl AJ hM.k0 rfl)) (fun w f hM=>⟨(),f,rfl,trivial,hM.exm,hM.res,trivial⟩))
def uM:Ea:=⟨[(130,2,2),(56,0,0),(56,1,1),(56,2,2),(56,3,3)],[(52,56,4)],[],[],[(3,false,1),(56,true,4),(9,false,1),(52,false,1)],[],[],[]⟩
theorem Cv:uM.Ok Tryz.prog:=⟨(And.intro Ru (And.intro HI (And.intro IJ (And.intro PF (And.intro F4 trivial))))),(And.intro DI trivial),trivial,trivial,(And.intro CZ (And.intro AJ (And.intro Hx (And.intro H0 trivial)))),trivial,trivial,trivial⟩
theorem WU(k:Nat)(ih:∀j,j<k→dJ Tryz.prog 72 130 j)(w:World)(f:Fq)(hv:Vl w f)(sb mb:Nat)(s:BJ)(fr:Int)(hS:BL 130 sb mb s fr (10000-(k:Int)) w f)(hf:f sb=0∧f mb=0)(hne:sb≠mb)(hw:Ji s)(hk:k≤10000)(t u:T1)(a:Option Addr)(c:Nat)(a2:Option Addr)(c2:Nat)(hbt:t.bnd)(hbu:u.bnd)(hT:Ah w f t.kids a c)(hU:Ah w f u.kids a2 c2) :
  BF Tryz.prog 72 #[.pointer (some ⟨sb,0,none⟩),tV t a c,tV u a2 c2] w (Fl (α:=Int×BJ×Int) (fun x=>.int .i64 x.1) (fun x=>(∀z,GX k s t.one u.one=.ok z→x.1=0∧x.2.1=z.2∧x.2.2=10000-(z.1:Int)∧Ji z.2)∧∀e,GX k s t.one u.one=.error e→x.1=e∧e≠0) (Mu sb mb) (fun x=>BL 130 sb mb x.2.1 fr x.2.2) (fun _=>[]) w f):=by
 have hkt:=(C8 hw hbt).1
 have hku:=(C8 hw hbu).1
 refine Dg (X:=XS 130 sb mb s fr (10000-(k:Int)) w f) (H:=[]) (R:=[]) (B:=[]) (Fs:=[fun w f=>Ah w f t.kids a c,fun w f=>Ah w f u.kids a2 c2]) (f:=f) Tryz.func72 rfl rfl rfl (aM hv hS hf ⟨hT,hU,trivial⟩ ⟨Ah.mono,Ah.mono,trivial⟩)<|go Cv 13 [] (fun b1=>fun b2=>fun _=>Fh rfl rfl (fun w f hM=>Al rfl CZ hM.res.1 rfl)<|go Cv 3 [] (fun _=>AZ 13 rfl rfl (fun h1=>?_) (fun h1=>?_)))
 refine go Cv 8 [] (fun _=>?_)
 obtain rfl:k=0:=by have h9:=beq_iff_eq.1 h1;omega
 have hun:=ZV s t u
 exact AY (Dz rfl rfl) (fun w f hM=>⟨(4,s,_),f,rfl,⟨fun z h=>(by rw[hun] at h;cases h),fun e h=>(by rw[hun] at h;cases h;exact⟨rfl,dC⟩)⟩,hM.exm,hM.res,trivial⟩)
 refine go Cv 4 [] (fun _=>?_)
 obtain⟨k2,rfl⟩:∃q,k=q+1:=⟨k-1,by have h9:=h1;have:¬(10000-(k:Int))=10000:=(by simpa using h9);omega⟩
 refine go Cv 4 [] (fun _=>Fh rfl rfl (fun w f hM=>Al rfl CZ hM.res.1 rfl)<|go Cv 3 [] (And.intro ⟨oM,oM⟩<|fun _=>ZD (b:=sb) (I':=BL 130 sb mb s fr (10000-(k2:Int))) rfl rfl rfl rfl CZ rfl rfl rfl (.inl rfl) (fun w f h=>h.1) (fun w f w2 h hM hC hb=>(by rw[show (10000-((k2+1:Nat):Int)+1)=10000-(k2:Int) by omega] at hb;exact⟨hb,let ⟨_,es,h2,h3⟩:=h;⟨es,h2.heap (hC.block mb (fun e=>hne e.symm)),Gj.mono (hC.fle (hM.mi sb (.inl rfl)).2.1) s es h3⟩⟩)) (BL.stab (.inl rfl) (.inr rfl))<|go Cv 3 [] (fun _=>?_)))
 refine WA (α:=Option Addr×Nat×Option Addr×Nat) (fun x=>True) (fun x=>(E3 0 (.pointer (some ⟨sb,0,none⟩)) 4 (.pointer (some ⟨b1,0,none⟩)) 5 (.pointer (some ⟨b2,0,none⟩)))) (fun x=>⟨Mu sb mb,Mu sb mb,BL 130 sb mb s fr (10000-(k2:Int)),w,f⟩) (fun x=>[⟨b2,tC (Ak s u) x.2.2.1 x.2.2.2,56,true⟩,⟨b1,tC (Ak s t) x.1 x.2.1,56,true⟩]) (fun x=>[]) (fun x=>[]) (fun x=>[fun w f=>Ah w f (Ak s t).kids x.1 x.2.1,fun w f=>Ah w f (Ak s u).kids x.2.2.1 x.2.2.2]) ?_ ?_
 refine Dj [] Ap (.rd 0 (.rd 3 (.br 1 (.br 2 (.br 4 (.br 5 (.br 6 (.br 7 .fin .fin) .fin) .fin) .fin) (.br 4 (.br 2 (.br 5 (.br 6 (.br 7 .fin .fin) .fin) .fin) .fin) .fin)) (.br 4 (.br 1 (.br 2 (.br 5 (.br 6 (.br 7 .fin .fin) .fin) .fin) .fin) .fin) .fin)))) rfl kR<|AA Cv 2 [] (fun _=>Ag rfl ?_ ?_)
 refine go Cv 2 [1] (y<|fun _=>Ax [] rfl<|Ag rfl ?_ ?_)
 refine B8 rfl rfl (eC IN rfl rfl) (fun w f hM=>Et w f hM.vl sb mb s fr (10000-(k2:Int)) hM.res hw t a c hbt hM.f0) (fun x=>⟨Ah.mono,trivial⟩) ?_
 rintro⟨ha,hc⟩ -
 refine go Cv 1 [] (fun _=>Ax [] rfl<|Ag rfl ?_ Ai)
 refine go Cv 2 [0] (y<|fun _=>Ax [] rfl<|Ag rfl ?_ Ai)
 refine B8 rfl rfl (eC IN rfl rfl) (fun w f hM=>Et w f hM.vl sb mb s fr (10000-(k2:Int)) hM.res hw u a2 c2 hbu hM.f2) (fun x=>⟨Ah.mono,trivial⟩) ?_
 rintro⟨ga,gc⟩ -
 refine go Cv 1 [] (fun _=>Ax [] rfl<|Ag rfl ?_ Ai)
 refine go Cv 2 [1] (y<|fun _=>Ax [] rfl<|Ag rfl ?_ Ai)
 exact go Cv 2 [0] (y<|fun _=>Ax [] rfl<|B3<|L2 (ha,hc,ga,gc) trivial lE (fun w f hM=>⟨f,hM.less sR sR (fun _ h=>h) (mR [1,0])⟩))
 refine Ag rfl ?_ Ai
 refine go Cv 2 [0] (y<|fun _=>Ax [] rfl<|Ag rfl ?_ Ai)
 refine B8 rfl rfl (eC IN rfl rfl) (fun w f hM=>Et w f hM.vl sb mb s fr (10000-(k2:Int)) hM.res hw t a c hbt hM.f0) (fun x=>⟨Ah.mono,trivial⟩) ?_
 rintro⟨ha,hc⟩ -
 refine go Cv 1 [] (fun _=>Ax [] rfl<|Ag rfl ?_ Ai)
 refine B8 rfl rfl (eC IN rfl rfl) (fun w f hM=>Et w f hM.vl sb mb s fr (10000-(k2:Int)) hM.res hw u a2 c2 hbu hM.f2) (fun x=>⟨Ah.mono,trivial⟩) ?_
 rintro⟨ga,gc⟩ -
 refine go Cv 1 [] (fun _=>Ax [] rfl<|Ag rfl ?_ Ai)
 refine go Cv 2 [1] (y<|fun _=>Ax [] rfl<|Ag rfl ?_ Ai)
 exact go Cv 2 [0] (y<|fun _=>Ax [] rfl<|B3<|L2 (ha,hc,ga,gc) trivial lE (fun w f hM=>⟨f,hM.less sR sR (fun _ h=>h) (mR [1,0])⟩))
 refine Ag rfl ?_ Ai
 refine go Cv 2 [0] (y<|fun _=>Ax [] rfl<|Ag rfl ?_ Ai)
 refine go Cv 2 [1] (y<|fun _=>Ax [] rfl<|Ag rfl ?_ Ai)
 refine B8 rfl rfl (eC IN rfl rfl) (fun w f hM=>Et w f hM.vl sb mb s fr (10000-(k2:Int)) hM.res hw t a c hbt hM.f0) (fun x=>⟨Ah.mono,trivial⟩) ?_
 rintro⟨ha,hc⟩ -
 refine go Cv 1 [] (fun _=>Ax [] rfl<|Ag rfl ?_ Ai)
 refine B8 rfl rfl (eC IN rfl rfl) (fun w f hM=>Et w f hM.vl sb mb s fr (10000-(k2:Int)) hM.res hw u a2 c2 hbu hM.f2) (fun x=>⟨Ah.mono,trivial⟩) ?_
 rintro⟨ga,gc⟩ -
 refine go Cv 1 [] (fun _=>Ax [] rfl<|Ag rfl ?_ Ai)
 refine go Cv 2 [1] (y<|fun _=>Ax [] rfl<|Ag rfl ?_ Ai)
 exact go Cv 2 [0] (y<|fun _=>Ax [] rfl<|B3<|L2 (ha,hc,ga,gc) trivial lE (fun w f hM=>⟨f,hM.less sR sR (fun _ h=>h) (mR [1,0])⟩))
 rintro⟨ha,hc,ga,gc⟩ -
 dsimp only
 refine go Cv 9 [1] (y<|fun _=>AZ 31 rfl rfl (fun h2=>?_) (fun h2=>?_))
 refine go Cv 5 [0] (y<|fun _=>AZ 36 rfl rfl (fun h3=>?_) (fun h3=>?_))
 refine go Cv 9 [1,0] (y<|y<|fun _=>AZ 27 rfl rfl (fun h4=>?_) (fun h4=>?_))
 refine go Cv 9 [] (fun _=>?_)
 obtain⟨n,hn⟩:=ED h2
 obtain⟨m,hm⟩:=ED h3
 have hun:GX (k2+1) s t.one u.one=.ok (k2,s):=by rw[KL,hn,hm];simp only[KO];rw[if_pos (by have h9:=h4;rw[hn,hm] at h9;exact h9)];cases k2 <;> rfl
 exact AY (Dz rfl rfl) (fun w f hM=>⟨(0,s,_),f,rfl,⟨fun z h=>(by rw[hun] at h;cases h;exact⟨rfl,rfl,rfl,hw⟩),fun e h=>(by rw[hun] at h;cases h)⟩,hM.exm,hM.res,trivial⟩)
 refine go Cv 9 [1] (y<|fun _=>qM 43 true rfl rfl h2<|go Cv 7 [1,0] (y<|y<|fun _=>?_))
 obtain⟨n,hn⟩:=ED h2
 refine Ov (XX:=fun _ _=>False) rfl rfl (eC Q6 rfl rfl) (fun w f hM=>(LG w f hM.vl sb mb s fr (10000-(k2:Int)) hM.res ⟨(hM.mi sb (.inl rfl)).2.1,(hM.mi mb (.inr rfl)).2.1⟩ hne hw (Ak s t).num (by rw[hn];exact FT hw hn) (Ak s u) ga gc (C8 hw hbu) hM.f1).retP) (fun _=>(BL.stab (.inl rfl) (.inr rfl))) (fun _=>trivial) (fun _ _ _ _ _ h=>h.elim) ?_
 rintro⟨⟩ -
 refine go Cv 6 [] (fun _=>?_)
 have hun:GX (k2+1) s t.one u.one=(match Cl s n (Ak s u) with|.error e=>.error e|.ok b=>.ok (k2,b)):=by
  rw[KL,hn]
  cases hm:(Ak s u) with
  |var m=>simp only[KO];rw[if_neg (by have h9:=h4;rw[hn,hm] at h9;simp only[T1.num] at h9;rw[h9];simp)];cases Cl s n (.var m) with|error e=>rfl|ok b=>cases k2 <;> rfl
  |con ty kb=>simp only[KO];cases Cl s n (.con ty kb) with|error e=>rfl|ok b=>cases k2 <;> rfl
 have hnum:(Ak s t).num=n:=by rw[hn];rfl
 have hbr:J9 s (Ak s t).num (Ak s u)=(match Cl s n (Ak s u) with|.error e=>(e,s)|.ok b=>(0,b)):=by rw[hnum];rfl
 cases hb9:Cl s n (Ak s u) with
 |error er=>rw[hb9] at hun hbr;exact AY (Dz rfl rfl) (fun w f hM=>⟨(er,s,_),f,(by rw[hbr]),⟨fun z h=>(by rw[hun] at h;cases h),fun e h=>(by rw[hun] at h;cases h;exact⟨rfl,Qn hb9⟩)⟩,hM.exm,(by have h7:=hM.res;rw[hbr] at h7;exact h7),trivial⟩)
 |ok b9=>rw[hb9] at hun hbr;exact AY (Dz rfl rfl) (fun w f hM=>⟨(0,b9,_),f,(by rw[hbr]),⟨fun z h=>(by rw[hun] at h;cases h;exact⟨rfl,rfl,rfl,PL hw (FT hw hn) (Mc hw _) (C8 hw hbu) hb9⟩),fun e h=>(by rw[hun] at h;cases h)⟩,hM.exm,(by have h7:=hM.res;rw[hbr] at h7;exact h7),trivial⟩)
 refine go Cv 18 [1] (y<|fun _=>qM 43 true rfl rfl h2<|go Cv 7 [1,0] (y<|y<|fun _=>?_))
 obtain⟨n,hn⟩:=ED h2
 refine Ov (XX:=fun _ _=>False) rfl rfl (eC Q6 rfl rfl) (fun w f hM=>(LG w f hM.vl sb mb s fr (10000-(k2:Int)) hM.res ⟨(hM.mi sb (.inl rfl)).2.1,(hM.mi mb (.inr rfl)).2.1⟩ hne hw (Ak s t).num (by rw[hn];exact FT hw hn) (Ak s u) ga gc (C8 hw hbu) hM.f1).retP) (fun _=>(BL.stab (.inl rfl) (.inr rfl))) (fun _=>trivial) (fun _ _ _ _ _ h=>h.elim) ?_
 rintro⟨⟩ -
 refine go Cv 6 [] (fun _=>?_)
 have hun:GX (k2+1) s t.one u.one=(match Cl s n (Ak s u) with|.error e=>.error e|.ok b=>.ok (k2,b)):=by
  rw[KL,hn]
  cases hm:(Ak s u) with
  |var m=>simp only[KO];rw[if_neg (by have h9:=h3;rw[hm] at h9;cases h9)];cases Cl s n (.var m) with|error e=>rfl|ok b=>cases k2 <;> rfl
  |con ty kb=>simp only[KO];cases Cl s n (.con ty kb) with|error e=>rfl|ok b=>cases k2 <;> rfl
 have hnum:(Ak s t).num=n:=by rw[hn];rfl
 have hbr:J9 s (Ak s t).num (Ak s u)=(match Cl s n (Ak s u) with|.error e=>(e,s)|.ok b=>(0,b)):=by rw[hnum];rfl
 cases hb9:Cl s n (Ak s u) with
 |error er=>rw[hb9] at hun hbr;exact AY (Dz rfl rfl) (fun w f hM=>⟨(er,s,_),f,(by rw[hbr]),⟨fun z h=>(by rw[hun] at h;cases h),fun e h=>(by rw[hun] at h;cases h;exact⟨rfl,Qn hb9⟩)⟩,hM.exm,(by have h7:=hM.res;rw[hbr] at h7;exact h7),trivial⟩)
 |ok b9=>rw[hb9] at hun hbr;exact AY (Dz rfl rfl) (fun w f hM=>⟨(0,b9,_),f,(by rw[hbr]),⟨fun z h=>(by rw[hun] at h;cases h;exact⟨rfl,rfl,rfl,PL hw (FT hw hn) (Mc hw _) (C8 hw hbu) hb9⟩),fun e h=>(by rw[hun] at h;cases h)⟩,hM.exm,(by have h7:=hM.res;rw[hbr] at h7;exact h7),trivial⟩)
 refine go Cv 23 [1] (y<|fun _=>qM 43 false rfl rfl h2<|go Cv 9 [0] (y<|fun _=>AZ 52 rfl rfl (fun h5=>?_) (fun h5=>?_)))
 refine go Cv 7 [0,1] (y<|y<|fun _=>?_)
 obtain⟨n,hn⟩:=ED h5
 refine Ov (XX:=fun _ _=>False) rfl rfl (eC Q6 rfl rfl) (fun w f hM=>(LG w f hM.vl sb mb s fr (10000-(k2:Int)) hM.res ⟨(hM.mi sb (.inl rfl)).2.1,(hM.mi mb (.inr rfl)).2.1⟩ hne hw (Ak s u).num (by rw[hn];exact FT hw hn) (Ak s t) ha hc (C8 hw hbt) hM.f0).retP) (fun _=>(BL.stab (.inl rfl) (.inr rfl))) (fun _=>trivial) (fun _ _ _ _ _ h=>h.elim) ?_
 rintro⟨⟩ -
 refine go Cv 6 [] (fun _=>?_)
 have hun:GX (k2+1) s t.one u.one=(match Cl s n (Ak s t) with|.error e=>.error e|.ok b=>.ok (k2,b)):=by
  rw[KL,hn]
  obtain⟨tx,ka,hTc⟩:=FR h2
  rw[hTc]
  simp only[KO]
  cases Cl s n (.con tx ka) with|error e=>rfl|ok b=>cases k2 <;> rfl
 have hnum:(Ak s u).num=n:=by rw[hn];rfl
 have hbr:J9 s (Ak s u).num (Ak s t)=(match Cl s n (Ak s t) with|.error e=>(e,s)|.ok b=>(0,b)):=by rw[hnum];rfl
 cases hb9:Cl s n (Ak s t) with
 |error er=>rw[hb9] at hun hbr;exact AY (Dz rfl rfl) (fun w f hM=>⟨(er,s,_),f,(by rw[hbr]),⟨fun z h=>(by rw[hun] at h;cases h),fun e h=>(by rw[hun] at h;cases h;exact⟨rfl,Qn hb9⟩)⟩,hM.exm,(by have h7:=hM.res;rw[hbr] at h7;exact h7),trivial⟩)
 |ok b9=>rw[hb9] at hun hbr;exact AY (Dz rfl rfl) (fun w f hM=>⟨(0,b9,_),f,(by rw[hbr]),⟨fun z h=>(by rw[hun] at h;cases h;exact⟨rfl,rfl,rfl,PL hw (FT hw hn) (Mc hw _) (C8 hw hbt) hb9⟩),fun e h=>(by rw[hun] at h;cases h)⟩,hM.exm,(by have h7:=hM.res;rw[hbr] at h7;exact h7),trivial⟩)
 refine go Cv 9 [1,0] (y<|y<|fun _=>AZ 67 rfl rfl (fun h6=>?_) (fun h6=>?_))
 refine go Cv 20 [] (fun _=>?_)
 obtain⟨tx,ka,hTc⟩:=FR h2
 obtain⟨ty,kb,hUc⟩:=FR h5
 have hun:GX (k2+1) s t.one u.one=.error 11:=by rw[KL,hTc,hUc];simp only[KO];rw[if_pos (by have h8:=h6;rw[hTc,hUc] at h8;simp only[T1.tx] at h8;rw[h8];rfl)]
 exact AY (Dz rfl rfl) (fun w f hM=>⟨(11,s,_),f,rfl,⟨fun z h=>(by rw[hun] at h;cases h),fun e h=>(by rw[hun] at h;cases h;exact⟨rfl,dC⟩)⟩,hM.exm,hM.res,trivial⟩)
 refine go Cv 11 [1,0] (y<|y<|fun _=>AZ 61 rfl rfl (fun h7=>?_) (fun h7=>?_))
 refine go Cv 9 [] (fun _=>?_)
 obtain⟨tx,ka,hTc⟩:=FR h2
 obtain⟨ty,kb,hUc⟩:=FR h5
 have hun:GX (k2+1) s t.one u.one=.error 11:=by rw[KL,hTc,hUc];simp only[KO];rw[if_pos (by have h9:=h7;rw[hTc,hUc] at h9;simp only[T1.kids] at h9;rw[h9];simp)]
 exact AY (Dz rfl rfl) (fun w f hM=>⟨(11,s,_),f,rfl,⟨fun z h=>(by rw[hun] at h;cases h),fun e h=>(by rw[hun] at h;cases h;exact⟨rfl,dC⟩)⟩,hM.exm,hM.res,trivial⟩)
 refine go Cv 6 [] (fun _=>?_)
 obtain⟨tx,ka,hTc⟩:=FR h2
 obtain⟨ty,kb,hUc⟩:=FR h5
 have hlen:(Ak s t).kids.len=(Ak s u).kids.len:=by have h9:(((Ak s t).kids.len:Int) != (Ak s u).kids.len)=false:=h7;simp at h9;omega
 have hun:GX (k2+1) s t.one u.one=GX k2 s (Ak s t).kids (Ak s u).kids:=by rw[KL];rw[hTc,hUc];simp only[KO,T1.kids];rw[if_neg (by have h8:=h6;have h9:=h7;rw[hTc,hUc] at h8 h9;simp only[T1.tx,T1.kids] at h8 h9;rw[h8,h9];simp),Ty.app_nil,Ty.app_nil]
 refine go Cv 8 [1] (y<|fun _=>?_)
 refine H9 (α:=Nat×Ty×Ty×Nat×BJ) (fun x=>x.2.1.len) (fun x=>x.1+x.2.1.len=(Ak s t).kids.len∧x.2.2.1.len=x.2.1.len∧GX k2 s (Ak s t).kids (Ak s u).kids=GX x.2.2.2.1 x.2.2.2.2 x.2.1 x.2.2.1∧x.2.2.2.1≤k2∧Ji x.2.2.2.2∧x.2.1.bnd∧x.2.2.1.bnd) (fun x=>(E5 0 (.pointer (some ⟨sb,0,none⟩)) 4 (.pointer (some ⟨b1,0,none⟩)) 5 (.pointer (some ⟨b2,0,none⟩)) 78 (.int .i64 ((Ak s t).kids.len:Int)) 79 (.int .i64 (x.1:Int)))) (fun x=>⟨Mu sb mb,Mu sb mb,BL 130 sb mb x.2.2.2.2 fr (10000-(x.2.2.2.1:Int)),w,f⟩) (fun x=>[⟨b2,tC (Ak s u) ga gc,56,true⟩,⟨b1,tC (Ak s t) ha hc,56,true⟩]) (fun x=>[]) (fun x=>[]) (fun x=>[fun w f=>AW w f ha x.1 x.2.1,fun w f=>AW w f ga x.1 x.2.2.1]) (0,(Ak s t).kids,(Ak s u).kids,k2,s) ⟨by simp,hlen.symm,rfl,Nat.le_refl _,hw,(C8 hw hbt).2,(C8 hw hbu).2⟩ lE (fun w f hM=>hM.more (B':=[]) (F':=[fun w f=>AW w f ha 0 (Ak s t).kids,fun w f=>AW w f ga 0 (Ak s u).kids]) nE (A1.mem ⟨Ah.at hM.f0,Ah.at hM.f1,trivial⟩) (Af.mem ⟨AW.mono,AW.mono,trivial⟩) |>.less (H':=[⟨b2,tC (Ak s u) ga gc,56,true⟩,⟨b1,tC (Ak s t) ha hc,56,true⟩]) (R':=[]) (B':=[]) (F':=[fun w f=>AW w f ha 0 (Ak s t).kids,fun w f=>AW w f ga 0 (Ak s u).kids]) sR sR nE (mR [0,1])) ?_
 rintro⟨i,r,q,j,s2⟩ ⟨hi,hq,hrun,hjk,hw2,hrb,hqb⟩
 dsimp only at hi hq hrun hjk hw2 hrb hqb ⊢
 refine go Cv 6 [] (fun _=>AZ 80 rfl rfl (fun h8=>?_) (fun h8=>?_))
 refine go Cv 12 [] (fun _=>?_)
 have hil:i<(Ak s t).kids.len:=by have:=of_decide_eq_true h8;omega
 obtain⟨t2,r,rfl⟩:=Ty.cases1 r oM
 rw[T1.len_cons] at hi hq
 obtain⟨u2,q,rfl⟩:=Ty.cases1 q oM
 rw[T1.len_cons] at hq
 refine CB (α:=Nat×Nat×Option Addr×Nat) (fun x=>ha=some ⟨x.1,x.2.1,none⟩) (fun x=>[⟨x.1,x.2.1+i*4,tC t2 x.2.2.1 x.2.2.2⟩]) (fun x=>[fun w f=>Ah w f t2.kids x.2.2.1 x.2.2.2,fun w f=>AW w f ha (i+1) r]) (fun w f hM=>let ⟨b,off,ka,kc,h1,h2,h3,h4⟩:=AW.head hM.f0;⟨(b,off,ka,kc),h1,(oE h2),A1.mem ⟨h3,h4,trivial⟩⟩) (fun x=>Af.mem ⟨Ah.mono,AW.mono,trivial⟩) ?_
 rintro⟨eb,eo,ea,ec⟩ rfl
 refine CB (α:=Nat×Nat×Option Addr×Nat) (fun x=>ga=some ⟨x.1,x.2.1,none⟩) (fun x=>[⟨x.1,x.2.1+i*4,tC u2 x.2.2.1 x.2.2.2⟩]) (fun x=>[fun w f=>Ah w f u2.kids x.2.2.1 x.2.2.2,fun w f=>AW w f ga (i+1) q]) (fun w f hM=>let ⟨b,off,ka,kc,h1,h2,h3,h4⟩:=AW.head hM.f3;⟨(b,off,ka,kc),h1,(oE h2),A1.mem ⟨h3,h4,trivial⟩⟩) (fun x=>Af.mem ⟨Ah.mono,AW.mono,trivial⟩) ?_
 rintro⟨pb,po,pa,pc⟩ rfl
 refine Dj [0,1] Ap (rd [0,1,2,3,4,5,6,7,8,9,10] (.br 11 (.rd 12 .fin) .fin)) rfl kR<|AA Cv 11 [1,101,0,0,100,0] (y<|And.intro oM<|y2<|y<|And.intro oM<|y2<|fun _=>Ag rfl ?_ Ai)
 refine Ov (XX:=fun _ _=>False) rfl rfl (eC Yc rfl rfl) (fun w f hM=>(ih j oM w f hM.vl sb mb s2 fr hM.res ⟨(hM.mi sb (.inl rfl)).2.1,(hM.mi mb (.inr rfl)).2.1⟩ hne hw2 oM t2 u2 ea ec pa pc (T1.bnd_cons.1 hrb).1 (T1.bnd_cons.1 hqb).1 hM.f2 hM.f0).retP) (fun _=>(BL.stab (.inl rfl) (.inr rfl))) (fun _=>trivial) (fun _ _ _ _ _ h=>h.elim) ?_
 rintro⟨cd,s3,pr3⟩ ⟨hok,herr⟩
 refine go Cv 1 [] (fun _=>Ax [0,1] rfl<|AA Cv 1 [] (fun _=>B3<|go Cv 7 [] (fun _=>AZ 95 rfl rfl (fun h9=>?_) (fun h9=>?_))))
 obtain⟨er,her⟩:∃e,GX j s2 t2.one u2.one=.error e:=by cases hx:GX j s2 t2.one u2.one with|error e=>exact⟨e,rfl⟩|ok z=>have g9:=(hok z hx).1;rw[g9] at h9;cases h9
 refine go Cv 10 [] (fun _=>cU<|go Cv 2 [] (fun _=>?_))
 have hun2:GX (k2+1) s t.one u.one=.error er:=by rw[hun,hrun,R5 _ _ _ _ _ _ (by omega),her];rfl
 exact AY (Dz rfl rfl) (fun w f hM=>⟨(cd,s3,pr3),f,rfl,⟨fun z h=>(by rw[hun2] at h;cases h),fun e h=>(by rw[hun2] at h;cases h;exact herr _ her)⟩,hM.exm,hM.res,trivial⟩)
 obtain⟨z,hz⟩:∃z,GX j s2 t2.one u2.one=.ok z:=by cases hx:GX j s2 t2.one u2.one with|ok z=>exact⟨z,rfl⟩|error e=>have g9:=herr e hx;have g8:cd=0:=(by simpa using h9);exact absurd (g9.1.symm.trans g8) g9.2
 obtain⟨hz1,hz2,hz3,hz4⟩:=hok z hz
 exact go Cv 8 [] (And.intro ⟨oM,oM⟩<|fun _=>Eb ((i+1,r,q,z.1,z.2)) (show r.len<(t2.cons r).len by rw[T1.len_cons];omega) ⟨show i+1+r.len=_ by omega,show q.len=r.len by omega,show GX k2 s _ _=GX z.1 z.2 r q by rw[hrun,R5 _ _ _ _ _ _ (by omega),hz];rfl,show z.1≤k2 by have:=nJ _ _ _ _ _ hz;omega,hz4,(T1.bnd_cons.1 hrb).2,(T1.bnd_cons.1 hqb).2⟩ lE (fun w f hM=>⟨_,by have hM2:=hM.less (H':=[⟨b2,tC (Ak s u) (some ⟨pb,po,none⟩) gc,56,true⟩,⟨b1,tC (Ak s t) (some ⟨eb,eo,none⟩) hc,56,true⟩]) (R':=[]) (B':=[]) (F':=[fun w f=>AW w f (some ⟨eb,eo,none⟩) (i+1) r,fun w f=>AW w f (some ⟨pb,po,none⟩) (i+1) q]) sR sR nE (mR [3,1]);rw[hz2,hz3] at hM2;exact hM2⟩))
 refine go Cv 3 [] (fun _=>Hc<|go Cv 8 [] (fun _=>?_))
 obtain rfl:r=.nil:=Ty.len0 (by have:=of_decide_eq_false h8;omega)
 have hun2:GX (k2+1) s t.one u.one=.ok (j,s2):=by rw[hun,hrun];cases j <;> rfl
 exact AY (Dz rfl rfl) (fun w f hM=>⟨(0,s2,_),f,rfl,⟨fun z h=>(by rw[hun2] at h;cases h;exact⟨rfl,rfl,rfl,hw2⟩),fun e h=>(by rw[hun2] at h;cases h)⟩,hM.exm,hM.res,trivial⟩)
def uT:Ea:=⟨[(130,2,2)],[],[],[],[(3,false,1),(56,true,4)],[],[],[(59,130)]⟩
theorem Rk:uT.Ok Tryz.prog:=⟨(And.intro Ru trivial),trivial,trivial,trivial,(And.intro CZ (And.intro AJ trivial)),trivial,trivial,(And.intro X8 trivial)⟩
theorem VN(k:Nat):dJ Tryz.prog 72 130 k:=Nat.strongRecOn k fun k ih w f hv sb mb s fr hS hf hne hw hk t u a c a2 c2 hbt hbu hT hU=>WU k ih w f hv sb mb s fr hS hf hne hw hk t u a c a2 c2 hbt hbu hT hU
theorem UC(w:World)(f:Fq)(hv:Vl w f)(sb mb:Nat)(s:BJ)(fr pr:Int)(hS:BL 130 sb mb s fr pr w f)(hf:f sb=0∧f mb=0)(hne:sb≠mb)(hw:Ji s)(t u:T1)(a:Option Addr)(c:Nat)(a2:Option Addr)(c2:Nat)(hbt:t.bnd)(hbu:u.bnd)(hT:Ah w f t.kids a c)(hU:Ah w f u.kids a2 c2) :
  BF Tryz.prog 48 #[.pointer (some ⟨sb,0,none⟩),tV t a c,tV u a2 c2] w (Fl (α:=Int×BJ×Int) (fun x=>.int .i64 x.1) (fun x=>(∀b,Gz s t u=.ok b→x.1=0∧x.2.1=b∧Ji b)∧∀e,Gz s t u=.error e→x.1=e∧e≠0) (Mu sb mb) (fun x=>BL 130 sb mb x.2.1 fr x.2.2) (fun _=>[]) w f):=by
 refine Dg (X:=XS 130 sb mb s fr pr w f) (H:=[]) (R:=[]) (B:=[]) (Fs:=[fun w f=>Ah w f t.kids a c,fun w f=>Ah w f u.kids a2 c2]) (f:=f) Tryz.func48 rfl rfl rfl (aM hv hS hf ⟨hT,hU,trivial⟩ ⟨Ah.mono,Ah.mono,trivial⟩)<|go Rk 22 [] (fun b1=>fun b2=>fun _=>ZD (b:=sb) (I':=BL 130 sb mb s fr (10000-((10000:Nat):Int))) rfl rfl rfl rfl CZ rfl rfl rfl (.inl rfl) (fun w f h=>h.1) (fun w f w2 h hM hC hb=>⟨hb,let ⟨_,es,h2,h3⟩:=h;⟨es,h2.heap (hC.block mb (fun e=>hne e.symm)),Gj.mono (hC.fle (hM.mi sb (.inl rfl)).2.1) s es h3⟩⟩) (BL.stab (.inl rfl) (.inr rfl))<|go Rk 3 [] (fun _=>Dj [0,1] Ap (rd [0,1,3] (.br 2 (.br 4 (.br 5 (.rd 6 .fin) .fin) .fin) .fin)) rfl kR<|AA Rk 3 [1,0] (y<|y<|fun _=>Ag rfl ?_ Ai)))
 refine B8 rfl rfl (eC PY rfl rfl) (fun w f hM=>Nl w f hM.vl t a c hbt hM.f0) (fun x=>⟨Ah.mono,trivial⟩) ?_
 rintro⟨ha,hc⟩ -
 refine go Rk 1 [] (fun _=>Ax [0,1] rfl<|Ag rfl ?_ Ai)
 refine B8 rfl rfl (eC PY rfl rfl) (fun w f hM=>Nl w f hM.vl u a2 c2 hbu hM.f2) (fun x=>⟨Ah.mono,trivial⟩) ?_
 rintro⟨ga,gc⟩ -
 refine go Rk 1 [] (fun _=>Ax [0,1] rfl<|Ag rfl ?_ Ai)
 refine Ov (XX:=fun _ _=>False) rfl rfl (eC Yc rfl rfl) (fun w f hM=>(VN 10000 w f hM.vl sb mb s fr hM.res ⟨(hM.mi sb (.inl rfl)).2.1,(hM.mi mb (.inr rfl)).2.1⟩ hne hw (Nat.le_refl _) t u ha hc ga gc hbt hbu hM.f1 hM.f0).retP) (fun _=>(BL.stab (.inl rfl) (.inr rfl))) (fun _=>trivial) (fun _ _ _ _ _ h=>h.elim) ?_
 rintro⟨cd,s3,pr3⟩ ⟨hok,herr⟩
 exact go Rk 1 [] (fun _=>Ax [0,1] rfl<|AA Rk 1 [] (fun _=>B3<|go Rk 2 [] (fun _=>AY (Dz rfl rfl) (fun w f hM=>⟨(cd,s3,pr3),f,rfl,⟨fun b h=>(by rw[Gz,Sp] at h;cases hx:GX 10000 s t.one u.one with|error e=>rw[hx] at h;cases h|ok z=>rw[hx] at h;cases h;exact⟨(hok z hx).1,(hok z hx).2.1,(hok z hx).2.2.2⟩),fun e h=>(by rw[Gz,Sp] at h;cases hx:GX 10000 s t.one u.one with|error e=>rw[hx] at h;cases h;exact herr _ hx|ok z=>rw[hx] at h;cases h)⟩,hM.exm,hM.res,trivial⟩))))
def qQ:Ea:=⟨[(56,0,0),(56,1,1),(56,2,2),(56,3,3)],[(52,56,4)],[],[],[(56,true,4),(3,false,1),(9,false,1),(52,false,1)],[(56,[.int .i64 0,.int .i64 0,.string ⟨#[]⟩,.slice none 0 0])],[(56,[(0,1),(1,1),(2,1),(3,1)])],[]⟩
theorem Cw:qQ.Ok Tryz.prog:=⟨(And.intro HI (And.intro IJ (And.intro PF (And.intro F4 trivial)))),(And.intro DI trivial),trivial,trivial,(And.intro AJ (And.intro CZ (And.intro Hx (And.intro H0 trivial)))),(And.intro DD trivial),(And.intro RM trivial),trivial⟩
theorem Rn(w:World)(f:Fq)(hv:Vl w f)  :
  BF Tryz.prog 50 #[.slice none 0 0] w (BV (α:=Unit) (fun _=>.slice none 0 0) (fun _=>True) (fun _=>[]) w f):=by
 refine Dg (X:=X0 w f) (H:=[]) (R:=[]) (B:=[]) (Fs:=[]) (f:=f) Tryz.func50 rfl rfl rfl (C7 hv trivial trivial)<|go Cw 12 [] (fun _=>AZ 4 rfl rfl (fun h1=>?_) (fun h1=>?_))
 exact go Cw 8 [] (fun _=>AY (Dz rfl rfl) (fun w f hM=>⟨(),f,rfl,trivial,hM.exm,trivial⟩))
 cases h1
theorem Bx(w:World)(f:Fq)(hv:Vl w f)(tx:List UInt8) :
  BF Tryz.prog 20 #[S tx,.slice none 0 0] w (BV (α:=Unit) (fun _=>tV (.con tx .nil) none 0) (fun _=>True) (fun _=>[]) w f):=by
 refine Dg (X:=X0 w f) (H:=[]) (R:=[]) (B:=[]) (Fs:=[]) (f:=f) Tryz.func20 rfl rfl rfl (C7 hv trivial trivial)<|go Cw 9 [] (fun b1=>fun _=>B8 rfl rfl (eC Y2 rfl rfl) (fun w f hM=>Rn w f hM.vl) (fun x=>trivial) ?_)
 rintro⟨⟩ -
 exact go Cw 5 [0] (y<|fun _=>AY (fun w f hM=>AI rfl (Ac rfl AJ hM.k0 rfl)) (fun w f hM=>⟨(),f,rfl,trivial,hM.exm,trivial⟩))
theorem W4(k:Nat)(ih:∀j,j<k→cQ Tryz.prog 83 130 j)(w:World)(f:Fq)(hv:Vl w f)(sb mb:Nat)(s:BJ)(fr pr:Int)(hS:BL 130 sb mb s fr pr w f)(hw:Ji s)(t:T1)(a:Option Addr)(c jj:Nat)(hb:t.bnd)(hT:Ah w f t.kids a c)(hfin:BA s k t.one=some jj) :
  BF Tryz.prog 83 #[.pointer (some ⟨sb,0,none⟩),tV t a c] w (BV (α:=Option Addr×Nat) (fun x=>tV (AR s k t.one).hd x.1 x.2) (fun _=>True) (fun x=>[fun w f=>Ah w f (AR s k t.one).hd.kids x.1 x.2]) w f):=by
 have hkb:=(C8 hw hb).1
 refine Dg (X:=X0 w f) (H:=[]) (R:=[]) (B:=[]) (Fs:=[fun w f=>Ah w f t.kids a c]) (f:=f) Tryz.func83 rfl rfl rfl (C7 hv ⟨hT,trivial⟩ ⟨Ah.mono,trivial⟩)<|go Cw 10 [1] (fun b1=>fun b2=>y<|fun _=>B8 rfl rfl (eC IN rfl rfl) (fun w f hM=>Et w f hM.vl sb mb s fr pr (BL.keep hS hM.exm hM.ent (fun h=>h) (fun h=>h)) hw t a c hb hM.f0) (fun x=>⟨Ah.mono,trivial⟩) ?_)
 rintro⟨ha,hc⟩ -
 refine go Cw 5 [1] (y<|fun _=>?_)
 obtain⟨k2,rfl⟩:∃q,k=q+1:=by cases k with|zero=>rw[Lj] at hfin;cases hfin|succ q=>exact⟨q,rfl⟩
 rw[Kh] at hfin
 refine go Cw 6 [1] (y<|fun _=>AZ 13 rfl rfl (fun h1=>?_) (fun h1=>?_))
 refine go Cw 5 [1] (y<|fun _=>B8 rfl rfl (eC Hp rfl rfl) (fun w f hM=>Eg w f hM.vl (Ak s t).num) (fun x=>trivial) ?_)
 rintro⟨⟩ -
 refine go Cw 5 [0] (y<|fun _=>?_)
 obtain⟨n,hn⟩:=ED h1
 have hone:(AR s (k2+1) t.one).hd=.var n:=by rw[MW,hn]
 exact AY (fun w f hM=>AI rfl (Ac rfl AJ hM.k0 rfl)) (fun w f hM=>⟨(none,0),f,(by rw[hone,hn];rfl),trivial,hM.exm,⟨by rw[hone];exact Ah.nil _ _ _ _,trivial⟩⟩)
 refine go Cw 7 [1] (y<|fun _=>B8 rfl rfl (eC B5 rfl rfl) (fun w f hM=>Bx w f hM.vl (Ak s t).tx) (fun x=>trivial) ?_)
 rintro⟨⟩ -
 refine go Cw 14 [0,2] (fun b3=>y<|y<|fun _=>QJ 56 4 ?_)
 refine H9 (α:=Nat×Ty×Ty×List Value×Option Addr×Nat×Nat) (fun x=>x.2.1.len) (fun x=>x.1+x.2.1.len=(Ak s t).kids.len∧x.2.2.1.len=x.1∧AR s k2 (Ak s t).kids=x.2.2.1.app (AR s x.2.2.2.2.2.2 x.2.1)∧BA s x.2.2.2.2.2.2 x.2.1=some jj∧x.2.2.2.2.2.2≤k2∧x.2.1.bnd) (fun x=>(E7 0 (.pointer (some ⟨sb,0,none⟩)) 3 (.pointer (some ⟨b1,0,none⟩)) 4 (.pointer (some ⟨b2,0,none⟩)) 5 (.pointer (some ⟨b3,0,none⟩)) 21 (.slice ha (Ak s t).kids.len hc) 22 (.int .i64 ((Ak s t).kids.len:Int)) 23 (.int .i64 (x.1:Int)))) (fun x=>X0 w f) (fun x=>[⟨b3,[.int .i64 1,.int .i64 0,S (Ak s t).tx,.slice x.2.2.2.2.1 x.1 x.2.2.2.2.2.1],56,true⟩,⟨b2,[.int .i64 0,.int .i64 0,.string ⟨#[]⟩,.slice none 0 0],56,true⟩,⟨b1,tC (Ak s t) ha hc,56,true⟩]) (fun x=>[⟨56,4,x.2.2.2.2.1,x.2.2.2.2.2.1,x.1,x.2.2.2.1⟩]) (fun x=>[]) (fun x=>[fun w f=>AW w f ha x.1 x.2.1,fun w f=>Bl w f x.2.2.1 x.2.2.2.1]) (0,(Ak s t).kids,.nil,[],none,0,k2) ⟨by simp,rfl,rfl,hfin,Nat.le_refl _,(C8 hw hb).2⟩ lE (fun w f hM=>hM.more (B':=[]) (F':=[fun w f=>AW w f ha 0 (Ak s t).kids,fun w f=>Bl w f .nil []]) nE (A1.mem ⟨Ah.at hM.f0,rfl,trivial⟩) (Af.mem ⟨AW.mono,Bl.mono,trivial⟩) |>.less sR sR nE (mR [0,1])) ?_
 rintro⟨i,r,dn,xs,ra,rc,j⟩ ⟨hi,hdl,hk,hj1,hjk,hrb⟩
 dsimp only at hi hdl hk hj1 hjk hrb ⊢
 refine go Cw 6 [] (fun _=>AZ 24 rfl rfl (fun h2=>?_) (fun h2=>?_))
 refine go Cw 6 [] (fun _=>?_)
 have hil:i<(Ak s t).kids.len:=by have:=of_decide_eq_true h2;omega
 obtain⟨t2,r,rfl⟩:=Ty.cases1 r oM
 rw[T1.len_cons] at hi
 obtain⟨j2,hj2,hj3⟩:∃j2,BA s j t2.one=some j2∧BA s j2 r=some jj:=by rw[Jj] at hj1;cases hx:BA s j t2.one with|none=>rw[hx] at hj1;cases hj1|some q=>rw[hx] at hj1;exact⟨q,rfl,hj1⟩
 refine CB (α:=Nat×Nat×Option Addr×Nat) (fun x=>ha=some ⟨x.1,x.2.1,none⟩) (fun x=>[⟨x.1,x.2.1+i*4,tC t2 x.2.2.1 x.2.2.2⟩]) (fun x=>[fun w f=>Ah w f t2.kids x.2.2.1 x.2.2.2,fun w f=>AW w f ha (i+1) r]) (fun w f hM=>let ⟨b,off,ka,kc,h1,h2,h3,h4⟩:=AW.head hM.f0;⟨(b,off,ka,kc),h1,(oE h2),A1.mem ⟨h3,h4,trivial⟩⟩) (fun x=>Af.mem ⟨Ah.mono,AW.mono,trivial⟩) ?_
 rintro⟨eb,eo,ka,kc⟩ rfl
 refine go Cw 7 [100,0,0] (And.intro oM<|y2<|fun b4=>y<|fun _=>Dj [0,2,3] Ap (rd [0,2,3] (.br 1 (.br 4 (.br 5 (.br 6 (.rd 7 (.br 8 .fin .fin)) .fin) .fin) .fin) (.br 4 (.br 1 (.br 5 (.br 6 (.rd 7 (.br 8 .fin .fin)) .fin) .fin) (.br 5 (.br 1 (.br 6 (.rd 7 (.br 8 .fin .fin)) .fin) .fin) .fin)) .fin))) rfl kR<|AA Cw 3 [0] (y<|fun _=>Ag rfl ?_ ?_))
 refine go Cw 2 [1] (y<|fun _=>Ax [0,2,3] rfl<|Ag rfl ?_ Ai)
 refine B8 rfl rfl (eC SK rfl rfl) (fun w f hM=>ih j oM w f hM.vl sb mb s fr pr (BL.keep hS hM.exm hM.ent (fun h=>h) (fun h=>h)) hw t2 ka kc j2 (T1.bnd_cons.1 hrb).1 hM.f0 hj2) (fun x=>⟨Ah.mono,trivial⟩) ?_
 rintro⟨a2,c2⟩ -
 refine go Cw 1 [] (fun _=>Ax [0,2,3] rfl<|Ag rfl ?_ Ai)
 refine go Cw 2 [] (fun b5=>fun _=>Ax [1,3,4] rfl<|Ag rfl ?_ Ai)
 refine DH 0 0 rfl rfl Dq rfl rfl rfl rfl rfl rfl rfl rfl (fun _ _=>rfl) oM oM fun ra2 rc2=>go Cw 1 [] (fun _=>Ax [1,3,4] rfl<|AA Cw 1 [] (fun _=>Ag rfl ?_ Ai))
 exact go Cw 2 [2] (y<|fun _=>Ax [1,3,4] rfl<|B3<|go Cw 6 [] (And.intro ⟨oM,oM⟩<|fun _=>Eb ((i+1,r,dn.snoc (AR s j t2.one).hd,xs++tC (AR s j t2.one).hd a2 c2,ra2,rc2,j2)) (show r.len<(t2.cons r).len by rw[T1.len_cons];omega) ⟨show i+1+r.len=_ by omega,show (dn.snoc _).len=i+1 by rw[Ty.len_snoc,hdl],show AR s k2 _=(dn.snoc _).app (AR s j2 r) by rw[hk,LY hj2 hj3,Ty.snoc_app],hj3,show j2≤k2 by have:=E1 s _ _ _ hj2;omega,(T1.bnd_cons.1 hrb).2⟩ lE (fun w f hM=>⟨_,(hM.more (B':=[]) (F':=[fun w f=>Bl w f (dn.snoc (AR s j t2.one).hd) (xs++tC (AR s j t2.one).hd a2 c2)]) nE (A1.mem ⟨Bl.snoc hM.f0 hM.f4,trivial⟩) (Af.mem ⟨Bl.mono,trivial⟩)).less (.cons _ (.cons _ sR)) sR nE (mR [3,0])⟩)))
 refine Ag rfl ?_ Ai
 refine B8 rfl rfl (eC SK rfl rfl) (fun w f hM=>ih j oM w f hM.vl sb mb s fr pr (BL.keep hS hM.exm hM.ent (fun h=>h) (fun h=>h)) hw t2 ka kc j2 (T1.bnd_cons.1 hrb).1 hM.f0 hj2) (fun x=>⟨Ah.mono,trivial⟩) ?_
 rintro⟨a2,c2⟩ -
 refine go Cw 1 [] (fun _=>Ax [0,2,3] rfl<|Ag rfl ?_ ?_)
 refine go Cw 2 [1] (y<|fun _=>Ax [0,2,3] rfl<|Ag rfl ?_ Ai)
 refine go Cw 2 [] (fun b6=>fun _=>Ax [1,3,4] rfl<|Ag rfl ?_ Ai)
 refine DH 0 0 rfl rfl Dq rfl rfl rfl rfl rfl rfl rfl rfl (fun _ _=>rfl) oM oM fun ra2 rc2=>go Cw 1 [] (fun _=>Ax [1,3,4] rfl<|AA Cw 1 [] (fun _=>Ag rfl ?_ Ai))
 exact go Cw 2 [2] (y<|fun _=>Ax [1,3,4] rfl<|B3<|go Cw 6 [] (And.intro ⟨oM,oM⟩<|fun _=>Eb ((i+1,r,dn.snoc (AR s j t2.one).hd,xs++tC (AR s j t2.one).hd a2 c2,ra2,rc2,j2)) (show r.len<(t2.cons r).len by rw[T1.len_cons];omega) ⟨show i+1+r.len=_ by omega,show (dn.snoc _).len=i+1 by rw[Ty.len_snoc,hdl],show AR s k2 _=(dn.snoc _).app (AR s j2 r) by rw[hk,LY hj2 hj3,Ty.snoc_app],hj3,show j2≤k2 by have:=E1 s _ _ _ hj2;omega,(T1.bnd_cons.1 hrb).2⟩ lE (fun w f hM=>⟨_,(hM.more (B':=[]) (F':=[fun w f=>Bl w f (dn.snoc (AR s j t2.one).hd) (xs++tC (AR s j t2.one).hd a2 c2)]) nE (A1.mem ⟨Bl.snoc hM.f0 hM.f4,trivial⟩) (Af.mem ⟨Bl.mono,trivial⟩)).less (.cons _ (.cons _ sR)) sR nE (mR [3,0])⟩)))
 refine Ag rfl ?_ Ai
 refine go Cw 2 [] (fun b7=>fun _=>Ax [1,3,4] rfl<|Ag rfl ?_ Ai)
 refine go Cw 2 [2] (y<|fun _=>Ax [1,3,4] rfl<|Ag rfl ?_ Ai)
 refine DH 0 0 rfl rfl Dq rfl rfl rfl rfl rfl rfl rfl rfl (fun _ _=>rfl) oM oM fun ra2 rc2=>go Cw 1 [] (fun _=>Ax [1,3,4] rfl<|AA Cw 1 [] (fun _=>Ag rfl ?_ Ai))
 exact go Cw 2 [2] (y<|fun _=>Ax [1,3,4] rfl<|B3<|go Cw 6 [] (And.intro ⟨oM,oM⟩<|fun _=>Eb ((i+1,r,dn.snoc (AR s j t2.one).hd,xs++tC (AR s j t2.one).hd a2 c2,ra2,rc2,j2)) (show r.len<(t2.cons r).len by rw[T1.len_cons];omega) ⟨show i+1+r.len=_ by omega,show (dn.snoc _).len=i+1 by rw[Ty.len_snoc,hdl],show AR s k2 _=(dn.snoc _).app (AR s j2 r) by rw[hk,LY hj2 hj3,Ty.snoc_app],hj3,show j2≤k2 by have:=E1 s _ _ _ hj2;omega,(T1.bnd_cons.1 hrb).2⟩ lE (fun w f hM=>⟨_,(hM.more (B':=[]) (F':=[fun w f=>Bl w f (dn.snoc (AR s j t2.one).hd) (xs++tC (AR s j t2.one).hd a2 c2)]) nE (A1.mem ⟨Bl.snoc hM.f0 hM.f4,trivial⟩) (Af.mem ⟨Bl.mono,trivial⟩)).less (.cons _ (.cons _ sR)) sR nE (mR [3,0])⟩)))
 refine go Cw 3 [] (fun _=>Hc<|go Cw 9 [0,1] (y<|y<|fun _=>?_))
 obtain rfl:r=.nil:=Ty.len0 (by have:=of_decide_eq_false h2;omega)
 rw[Hv,Ty.app_nil] at hk
 obtain⟨tx,ka,hTc⟩:=FR h1
 have hone:(AR s (k2+1) t.one).hd=.con tx dn:=by rw[MW,hTc,← hk,hTc];rfl
 have htx:(Ak s t).tx=tx:=by rw[hTc];rfl
 rcases Nat.eq_zero_or_pos dn.len with h0|h0
 · exact AY (fun w f hM=>AI rfl (Ac rfl AJ hM.k1 rfl)) (fun w f hM=>⟨(ra,rc),f,(by rw[hone,htx,← hdl];rfl),trivial,hM.exm,⟨by rw[hone];obtain rfl:=Ty.len0 h0;exact Ah.nil _ _ _ _,trivial⟩⟩)
 · exact AY (fun w f hM=>AI rfl (Ac rfl AJ hM.k1 rfl)) (fun w f hM=>let ⟨f2,hM2,hF⟩:=MV hM hM.f1 h0;⟨(ra,rc),f2,(by rw[hone,htx,← hdl];rfl),trivial,hM2.exm,⟨by rw[hone];exact hF,trivial⟩⟩)
theorem T0(k:Nat):cQ Tryz.prog 83 130 k:=Nat.strongRecOn k fun k ih w f hv sb mb s fr pr hS hw t a c j hb hT hj=>W4 k ih w f hv sb mb s fr pr hS hw t a c j hb hT hj
def sE:Ea:=⟨[(56,0,0),(56,1,1),(56,3,3)],[(52,56,4)],[],[],[(56,true,4),(3,false,1),(52,false,1)],[(56,[.int .i64 0,.int .i64 0,.string ⟨#[]⟩,.slice none 0 0])],[(56,[(0,1),(1,1),(2,1),(3,1)])],[(59,130)]⟩
theorem DV:sE.Ok Tryz.prog:=⟨(And.intro HI (And.intro IJ (And.intro F4 trivial))),(And.intro DI trivial),trivial,trivial,(And.intro AJ (And.intro CZ (And.intro H0 trivial))),(And.intro DD trivial),(And.intro RM trivial),(And.intro X8 trivial)⟩
theorem Ka(w:World)(f:Fq)(hv:Vl w f)(sb mb:Nat)(s:BJ)(fr pr:Int)(hS:BL 130 sb mb s fr pr w f)(hw:Ji s)(t:T1)(a:Option Addr)(c:Nat)(hb:t.bnd)(hT:Ah w f t.kids a c) :
  BF Tryz.prog 58 #[.pointer (some ⟨sb,0,none⟩),tV t a c] w (BV (α:=Option Addr×Nat) (fun x=>.tuple #[tV ((CT s t).getD (.var 0)) x.1 x.2,.int .i64 (if (CT s t).isSome then 0 else 4)]) (fun _=>True) (fun x=>[fun w f=>Ah w f ((CT s t).getD (.var 0)).kids x.1 x.2]) w f):=by
 refine Dg (X:=X0 w f) (H:=[]) (R:=[]) (B:=[]) (Fs:=[fun w f=>Ah w f t.kids a c]) (f:=f) Tryz.func58 rfl rfl rfl (C7 hv ⟨hT,trivial⟩ ⟨Ah.mono,trivial⟩)<|go DV 21 [1] (fun b1=>fun b2=>y<|fun _=>B8 rfl rfl (eC XM rfl rfl) (fun w f hM=>NH w f hM.vl sb mb s fr pr (BL.keep hS hM.exm hM.ent (fun h=>h) (fun h=>h)) hw t a c hb hM.f0) (fun x=>trivial) ?_)
 rintro⟨⟩ -
 refine go DV 4 [] (fun _=>AZ 10 rfl rfl (fun h1=>?_) (fun h1=>?_))
 replace h1:=FL h1
 refine go DV 11 [0] (y<|fun _=>?_)
 have hf:CT s t=none:=by rw[CT,h1];rfl
 exact AY (fun w f hM=>Cu rfl (Ac rfl AJ hM.k0 rfl) (Aj rfl)) (fun w f hM=>⟨(none,0),f,(by rw[hf];rfl),trivial,hM.exm,⟨by rw[hf];exact Ah.nil _ _ _ _,trivial⟩⟩)
 replace h1:=Gn h1
 refine go DV 8 [1] (y<|fun _=>?_)
 obtain⟨j,hj⟩:∃j,BA s 1000 t.one=some j:=by have h9:=h1;rw[Fv,Ev] at h9;exact Option.isSome_iff_exists.1 h9
 refine B8 rfl rfl (eC SK rfl rfl) (fun w f hM=>T0 1000 w f hM.vl sb mb s fr pr (BL.keep hS hM.exm hM.ent (fun h=>h) (fun h=>h)) hw t a c j hb hM.f0 hj) (fun x=>⟨Ah.mono,trivial⟩) ?_
 rintro⟨a2,c2⟩ -
 refine go DV 5 [0] (y<|fun _=>?_)
 have hf:CT s t=some (AR s 1000 t.one).hd:=by rw[CT,if_pos h1]
 exact AY (fun w f hM=>Cu rfl (Ac rfl AJ hM.k0 rfl) (Aj rfl)) (fun w f hM=>⟨(a2,c2),f,(by rw[hf];rfl),trivial,hM.exm,⟨by rw[hf];exact hM.f0,trivial⟩⟩)
theorem Wk(m:Nat)(ih:cN Tryz.prog 44 m)(w:World)(f:Fq)(hv:Vl w f)(l:List Int)(la:Option Addr)(lc:Nat)(yy:Ty)(ya:Option Addr)(yc:Nat)(hl:l.length≤1000000)(hyl:yy.len≤200000)(hyb:yy.bnd)(hI:BN w f l la lc)(hY:Ah w f yy ya yc)(t:T1)(a:Option Addr)(c:Nat)(hm:t.kids.size<m+1)(hbd:t.bnd)(hT:Ah w f t.kids a c) :
  BF Tryz.prog 44 #[tV t a c,.slice la l.length lc,.slice ya yy.len yc] w (BV (α:=Option Addr×Nat) (fun x=>tV (C9 t l yy) x.1 x.2) (fun _=>True) (fun x=>[fun w f=>Ah w f (C9 t l yy).kids x.1 x.2]) w f):=by
 have hbl:=hbd.1
 refine Dg (X:=X0 w f) (H:=[]) (R:=[]) (B:=[]) (Fs:=[fun w f=>Ah w f t.kids a c,fun w f=>BN w f l la lc,fun w f=>Ah w f yy ya yc]) (f:=f) Tryz.func44 rfl rfl rfl (C7 hv ⟨hT,hI,hY,trivial⟩ ⟨Ah.mono,BN.mono,Ah.mono,trivial⟩)<|go DV 14 [1] (fun b1=>fun b2=>y<|fun _=>AZ 13 rfl rfl (fun h1=>?_) (fun h1=>?_))
 refine go DV 7 [1] (y<|fun _=>B8 rfl rfl (eC YW rfl rfl) (fun w f hM=>Mf w f hM.vl l la lc t.num hl hM.f1) (fun x=>trivial) ?_)
 rintro⟨⟩ -
 refine go DV 8 [] (fun _=>AZ 20 rfl rfl (fun h2=>?_) (fun h2=>?_))
 refine go DV 7 [] (fun _=>AZ 25 rfl rfl (fun h3=>?_) (fun h3=>?_))
 refine go DV 2 [] (fun _=>?_)
 obtain⟨i,hix⟩:∃i,DJ l t.num=some i:=by cases hx:DJ l t.num with|some i=>exact⟨i,rfl⟩|none=>have h9:=of_decide_eq_true h2;simp only[Xc,hx] at h9;omega
 have hixI:Xc l t.num=i:=by rw[Xc,hix]
 obtain⟨t2,ht2⟩:=Up (k:=yy) (i:=i) (by have h9:=of_decide_eq_true h3;rw[hixI] at h9;omega)
 refine CB (α:=Nat×Nat×Option Addr×Nat) (fun x=>ya=some ⟨x.1,x.2.1,none⟩) (fun x=>[⟨x.1,x.2.1+i*4,tC t2 x.2.2.1 x.2.2.2⟩]) (fun x=>[fun w f=>Ah w f t2.kids x.2.2.1 x.2.2.2]) (fun w f hM=>let ⟨b,off,ka,kc,h1,h2,h3⟩:=Ah.nth hM.f2 ht2;⟨(b,off,ka,kc),h1,(oE h2),A1.mem ⟨h3,trivial⟩⟩) (fun x=>Af.mem ⟨Ah.mono,trivial⟩) ?_
 rintro⟨eb,eo,ka,kc⟩ rfl
 have hil:i<yy.len:=by have h9:=of_decide_eq_true h3;rw[hixI] at h9;omega
 rw[hixI]
 refine go DV 5 [100,0] (And.intro oM<|y2<|fun _=>B8 rfl rfl (eC PY rfl rfl) (fun w f hM=>Nl w f hM.vl t2 ka kc (HE hyb ht2) hM.f0) (fun x=>⟨Ah.mono,trivial⟩) ?_)
 rintro⟨a2,c2⟩ -
 refine go DV 6 [0] (y<|fun _=>?_)
 obtain⟨n,rfl⟩:=ED h1
 have hsw:C9 (.var n) l yy=t2:=by rw[N0,show DJ l n=some i from hix];show (yy.get i).getD _=t2;rw[ht2];rfl
 exact AY (fun w f hM=>AI rfl (Ac rfl AJ hM.k0 rfl)) (fun w f hM=>⟨(a2,c2),f,(by rw[hsw]),trivial,hM.exm,⟨by rw[hsw];exact hM.f0,trivial⟩⟩)
 refine go DV 11 [1,0] (y<|y<|fun _=>?_)
 obtain⟨n,rfl⟩:=ED h1
 have hsw:C9 (.var n) l yy=.var n:=by
  rw[N0]
  cases hx:DJ l n with
  |none=>rfl
  |some i=>show (yy.get i).getD _=_;rw[YQ (by have h9:=of_decide_eq_false h3;rw[show Xc l (T1.num (.var n))=i by simp only[T1.num,Xc,hx]] at h9;omega)];rfl
 exact AY (fun w f hM=>AI rfl (Ac rfl AJ hM.k0 rfl)) (fun w f hM=>⟨(a,c),f,(by rw[hsw]),trivial,hM.exm,⟨by rw[hsw];exact Ah.mono _ _ _ _ hT hM.ent,trivial⟩⟩)
 refine go DV 18 [1,0] (y<|y<|fun _=>?_)
 obtain⟨n,rfl⟩:=ED h1
 have hsw:C9 (.var n) l yy=.var n:=by
  rw[N0]
  cases hx:DJ l n with
  |none=>rfl
  |some i=>have h9:=of_decide_eq_false h2;rw[show Xc l (T1.num (.var n))=i by simp only[T1.num,Xc,hx]] at h9;omega
 exact AY (fun w f hM=>AI rfl (Ac rfl AJ hM.k0 rfl)) (fun w f hM=>⟨(a,c),f,(by rw[hsw]),trivial,hM.exm,⟨by rw[hsw];exact Ah.mono _ _ _ _ hT hM.ent,trivial⟩⟩)
 refine go DV 8 [1] (y<|fun _=>tB rfl rfl Dq rfl rfl rfl rfl (by have:=hbd.1;omega) (by have:=hbd.1;unfold maxLen;omega) fun br1=>go DV 13 [1] (y<|fun _=>?_))
 refine H9 (α:=Nat×Ty×Ty×List Value) (fun x=>x.2.1.len) (fun x=>x.1+x.2.1.len=t.kids.len∧x.2.2.1.len=x.1∧DQ l yy t.kids=x.2.2.1.app (DQ l yy x.2.1)∧x.2.1.bnd∧x.2.1.size≤t.kids.size) (fun x=>(E8 1 (.slice la l.length lc) 2 (.slice ya yy.len yc) 3 (.pointer (some ⟨b1,0,none⟩)) 6 (.pointer (some ⟨b2,0,none⟩)) 8 (.slice (some ⟨br1,0,none⟩) t.kids.len t.kids.len) 37 (.slice a t.kids.len c) 38 (.int .i64 (t.kids.len:Int)) 39 (.int .i64 (x.1:Int)))) (fun x=>X0 w f) (fun x=>[⟨b2,[.int .i64 0,.int .i64 0,.string ⟨#[]⟩,.slice none 0 0],56,true⟩,⟨b1,tC t a c,56,true⟩]) (fun x=>[⟨56,4,some ⟨br1,0,none⟩,t.kids.len,t.kids.len,x.2.2.2++Gh x.2.1.len [.int .i64 0,.int .i64 0,.string ⟨#[]⟩,.slice none 0 0]⟩]) (fun x=>[]) (fun x=>[fun w f=>AW w f a x.1 x.2.1,fun w f=>Bl w f x.2.2.1 x.2.2.2,fun w f=>BN w f l la lc,fun w f=>Ah w f yy ya yc]) (0,t.kids,.nil,[]) ⟨by simp,rfl,rfl,hbd.2,Nat.le_refl _⟩ lE (fun w f hM=>hM.more (B':=[]) (F':=[fun w f=>AW w f a 0 t.kids,fun w f=>Bl w f .nil []]) nE (A1.mem ⟨Ah.at hM.f0,rfl,trivial⟩) (Af.mem ⟨AW.mono,Bl.mono,trivial⟩) |>.less sR sR nE (mR [0,1,3,4])) ?_
 rintro⟨i,r,dn,xs⟩ ⟨hi,hdl,hk,hb,hs⟩
 dsimp only at hi hdl hk hb hs ⊢
 refine go DV 6 [] (fun _=>AZ 40 rfl rfl (fun h4=>?_) (fun h4=>?_))
 refine go DV 6 [] (fun _=>?_)
 have hil:i<t.kids.len:=by have:=of_decide_eq_true h4;omega
 obtain⟨t2,r,rfl⟩:=Ty.cases1 r oM
 rw[T1.len_cons] at hi
 refine CB (α:=Nat×Nat×Option Addr×Nat) (fun x=>a=some ⟨x.1,x.2.1,none⟩) (fun x=>[⟨x.1,x.2.1+i*4,tC t2 x.2.2.1 x.2.2.2⟩]) (fun x=>[fun w f=>Ah w f t2.kids x.2.2.1 x.2.2.2,fun w f=>AW w f a (i+1) r]) (fun w f hM=>let ⟨b,off,ka,kc,h1,h2,h3,h4⟩:=AW.head hM.f0;⟨(b,off,ka,kc),h1,(oE h2),A1.mem ⟨h3,h4,trivial⟩⟩) (fun x=>Af.mem ⟨Ah.mono,AW.mono,trivial⟩) ?_
 rintro⟨eb,eo,ka,kc⟩ rfl
 refine go DV 15 [100,0,0,0] (And.intro oM<|y2<|fun b3=>y<|y<|fun _=>B8 rfl rfl (eC D9 rfl rfl) (fun w f hM=>ih w f hM.vl l la lc yy ya yc hl hyl hyb hM.f4 hM.f5 t2 ka kc (by have:=T1.size_cons t2 r;omega) (T1.bnd_cons.1 hb).1 hM.f0) (fun x=>⟨Ah.mono,trivial⟩) ?_)
 rintro⟨a2,c2⟩ -
 refine go DV 1 [] (And.intro oM<|fun _=>Ky (fun w f hM=>Bl.len hM.f4) fun hxl=>?_)
 rw[hdl] at hxl
 exact qH 0 ((xs++tC (C9 t2 l yy) a2 c2)++Gh r.len [.int .i64 0,.int .i64 0,.string ⟨#[]⟩,.slice none 0 0]) rfl rfl rfl rfl AJ rfl rfl rfl (by simp only[Nat.zero_add,List.length_cons,List.length_nil,Int.toNat_natCast];omega) (by rw[Nat.zero_add,Int.toNat_natCast,← hxl,T1.len_cons,Gh];exact SA _ _ _ _ rfl) rfl<|go DV 7 [] (And.intro ⟨oM,oM⟩<|fun _=>Eb ((i+1,r,dn.snoc (C9 t2 l yy),xs++tC (C9 t2 l yy) a2 c2)) (show r.len<(t2.cons r).len by rw[T1.len_cons];omega) ⟨show i+1+r.len=t.kids.len by omega,show (dn.snoc _).len=i+1 by rw[Ty.len_snoc,hdl],show DQ l yy t.kids=(dn.snoc _).app (DQ l yy r) by rw[hk,Pa,Ty.snoc_app],(T1.bnd_cons.1 hb).2,show r.size≤t.kids.size by have:=T1.size_cons t2 r;omega⟩ lE (fun w f hM=>⟨_,(hM.more (B':=[]) (F':=[fun w f=>Bl w f (dn.snoc (C9 t2 l yy)) (xs++tC (C9 t2 l yy) a2 c2)]) nE (A1.mem ⟨Bl.snoc hM.f0 hM.f4,trivial⟩) (Af.mem ⟨Bl.mono,trivial⟩)).less (.cons _ sR) sR nE (mR [3,0,6,7])⟩))
 refine go DV 3 [] (fun _=>Hc<|go DV 3 [] (fun _=>?_))
 obtain rfl:r=.nil:=Ty.len0 (by have:=of_decide_eq_false h4;omega)
 rw[show DQ l yy .nil=.nil from rfl,Ty.app_nil] at hk
 refine dR 0 rfl rfl<|go DV 13 [1,1,0] (y<|y<|y<|fun _=>?_)
 obtain⟨tx,kk,rfl⟩:=FR h1
 have hsw:C9 (.con tx kk) l yy=.con tx dn:=by rw[Yi];exact congrArg _ hk
 have hdk:dn.len=kk.len:=by have h9:i+0=kk.len:=hi;omega
 exact AY (fun w f hM=>AI rfl (Ac rfl AJ hM.k0 rfl)) (fun w f hM=>⟨(some ⟨br1,0,none⟩,kk.len),f,(by rw[hsw];show _=Value.agg #[_,_,_,.slice _ dn.len _];rw[hdk];rfl),trivial,hM.exm,⟨by rw[hsw];exact Bl.toF hM.f1 (by have:=hM.b0;simpa[Gh,Ty.len] using this) (Nat.le_of_eq hdk),trivial⟩⟩)
theorem BI(w:World)(f:Fq)(hv:Vl w f)(l:List Int)(la:Option Addr)(lc:Nat)(yy:Ty)(ya:Option Addr)(yc:Nat)(hl:l.length≤1000000)(hyl:yy.len≤200000)(hyb:yy.bnd)(hI:BN w f l la lc)(hY:Ah w f yy ya yc)(t:T1)(a:Option Addr)(c:Nat)(hb:t.bnd)(hT:Ah w f t.kids a c) :
  BF Tryz.prog 44 #[tV t a c,.slice la l.length lc,.slice ya yy.len yc] w (BV (α:=Option Addr×Nat) (fun x=>tV (C9 t l yy) x.1 x.2) (fun _=>True) (fun x=>[fun w f=>Ah w f (C9 t l yy).kids x.1 x.2]) w f) :=
 Mz (p:=cN Tryz.prog 44) (fun w f hv l la lc yy ya yc _ _ _ _ _ t a c h=>by omega) (fun m ih w f hv l la lc yy ya yc h1 h2 h3 h4 h5 t a c h6 h7 h8=>Wk m ih w f hv l la lc yy ya yc h1 h2 h3 h4 h5 t a c h6 h7 h8) (t.kids.size+1) w f hv l la lc yy ya yc hl hyl hyb hI hY t a c (Nat.lt_succ_self _) hb hT
def pN:Ea:=⟨[(56,0,0),(56,1,1),(56,3,3)],[(90,3,1),(52,56,4)],[],[],[(3,false,1),(90,false,1),(52,false,1),(56,true,4)],[(3,[.int .i64 0]),(56,[.int .i64 0,.int .i64 0,.string ⟨#[]⟩,.slice none 0 0]),(90,[.slice none 0 0])],[],[]⟩
theorem Du:pN.Ok Tryz.prog:=⟨(And.intro HI (And.intro IJ (And.intro F4 trivial))),(And.intro KZ (And.intro DI trivial)),trivial,trivial,(And.intro CZ (And.intro Kz (And.intro H0 (And.intro AJ trivial)))),(And.intro W1 (And.intro DD (And.intro nG trivial))),trivial,trivial⟩
theorem WQ(m:Nat)(ih:eP Tryz.prog 78 90 m)(w:World)(f:Fq)(hv:Vl w f)(ob mb:Nat)(oa:Option Addr)(oc:Nat)(l:List Int)(hV:Qt 90 ob mb oa oc l w f)(hf:∀b,M6 ob mb oa b→f b=0)(t:T1)(a:Option Addr)(c:Nat)(hm:t.kids.size<m+1)(hsz0:t.kids.size+1+l.length≤1000000)(hbd:t.bnd)(hT:Ah w f t.kids a c) :
  BF Tryz.prog 78 #[tV t a c,.map (some mb),.pointer (some ⟨ob,0,none⟩)] w (O0 (α:=Option Addr×Nat) (fun _=>.tuple #[]) (fun _=>True) (M6 ob mb oa) (fun x=>M6 ob mb x.1) (fun x=>Qt 90 ob mb x.1 x.2 (CR t.one l)) (fun _=>[]) w f):=by
 have hbl:=hbd.1
 refine Dg (X:=⟨M6 ob mb oa,M6 ob mb oa,Qt 90 ob mb oa oc l,w,f⟩) (H:=[]) (R:=[]) (B:=[]) (Fs:=[fun w f=>Ah w f t.kids a c]) (f:=f) Tryz.func78 rfl rfl rfl (Zs (M:=M6 ob mb oa) hv hV Ef.stab (fun b hb=>⟨hV.lt hb,hf b hb⟩) ⟨hT,trivial⟩ ⟨Ah.mono,trivial⟩)<|go Du 13 [0] (fun b1=>y<|fun _=>AZ 10 rfl rfl (fun h1=>?_) (fun h1=>?_))
 refine go Du 7 [0] (y<|fun _=>Fh rfl rfl (fun w f hM=>Ns (K:=Fp) (a:=t.num) rfl rfl Oe O1 aZ hM.res.map (Lx hM.res.nd) (UD t.num l))<|go Du 3 [] (fun _=>AZ 15 rfl rfl (fun h2=>?_) (fun h2=>?_)))
 replace h2:=FL h2
 refine go Du 6 [0] (y<|fun _=>ZG (K:=Fp) (a:=t.num) (l:=HF l) (I':=Ef 90 ob mb (.slice oa l.length oc) (l++[t.num]) oa oc l) rfl rfl rfl rfl Oe O1 (.inr (.inl rfl)) (Lx hV.nd) (UW h2) (fun w f h=>h.map) (fun w f w2 h hM hC hm=>Ef.mapped h hC hm h2) Ef.stab<|go Du 2 [] (fun _=>Dj [0] Ap (rd [0,1,2,4,5] (.br 3 (.br 6 (.br 7 (.rd 8 (.br 9 .fin .fin)) .fin) .fin) (.br 6 (.br 3 (.br 7 (.rd 8 (.br 9 .fin .fin)) .fin) .fin) .fin))) rfl kR<|AA Du 5 [0] (y<|fun _=>Ag rfl ?_ ?_)))
 refine Fh rfl rfl (fun w f hM=>Al rfl Kz hM.res.blk rfl)<|go Du 1 [] (fun _=>Ax [0] rfl<|Ag rfl ?_ Ai)
 refine go Du 2 [] (fun b2=>fun _=>Ax [1] rfl<|Ag rfl ?_ Ai)
 refine SC (MI':=M6 ob mb) (I':=fun a' c'=>Ef 90 ob mb (.slice oa l.length oc) (l++[t.num]) a' c' (l++[t.num])) 0 rfl rfl Me rfl rfl rfl rfl rfl rfl rfl oM oM (fun w f h=>h.row) (fun b h=>.inr (.inr h)) (fun _ _ h=>M6.or h) (fun w f w2 a2 c2 h hM hr hG=>Ef.app h hr hG) (fun _ _=>Ef.stab) fun a2 c2=>go Du 1 [] (fun _=>Ax [1] rfl<|AA Du 1 [] (fun _=>Ag rfl ?_ Ai))
 refine ZD (b:=ob) (I':=Ef 90 ob mb (.slice a2 (l.length+1) c2) (l++[t.num]) a2 c2 (l++[t.num])) rfl rfl rfl rfl Kz rfl rfl rfl (.inl rfl) (fun w f h=>h.blk) (fun w f w2 h hM hC hb=>Ef.store h hC hb) Ef.stab<|go Du 1 [] (fun _=>Ax [1] rfl<|B3<|go Du 3 [] (fun _=>?_))
 obtain⟨n,rfl⟩:=ED h1
 have hvs:CR (T1.var n).one l=l++[n]:=by rw[Nq,if_neg (by rw[show l.contains n=false from h2];decide)]
 exact AY (fun w f hM=>DT rfl) (fun w f hM=>⟨(a2,c2),f,rfl,trivial,hM.exm,(fun b hb=>let ⟨h1,h2,h3⟩:=hM.mi b hb;h3.elim (fun h=>.inr ⟨h,h1,h2⟩) .inl),(by rw[hvs];have h9:=hM.res;rw[show l.length+1=(l++[n]).length by simp] at h9;exact h9),trivial⟩)
 refine Ag rfl ?_ Ai
 refine go Du 2 [] (fun b3=>fun _=>Ax [1] rfl<|Ag rfl ?_ Ai)
 refine Fh rfl rfl (fun w f hM=>Al rfl Kz hM.res.blk rfl)<|go Du 1 [] (fun _=>Ax [1] rfl<|Ag rfl ?_ Ai)
 refine SC (MI':=M6 ob mb) (I':=fun a' c'=>Ef 90 ob mb (.slice oa l.length oc) (l++[t.num]) a' c' (l++[t.num])) 0 rfl rfl Me rfl rfl rfl rfl rfl rfl rfl oM oM (fun w f h=>h.row) (fun b h=>.inr (.inr h)) (fun _ _ h=>M6.or h) (fun w f w2 a2 c2 h hM hr hG=>Ef.app h hr hG) (fun _ _=>Ef.stab) fun a2 c2=>go Du 1 [] (fun _=>Ax [1] rfl<|AA Du 1 [] (fun _=>Ag rfl ?_ Ai))
 refine ZD (b:=ob) (I':=Ef 90 ob mb (.slice a2 (l.length+1) c2) (l++[t.num]) a2 c2 (l++[t.num])) rfl rfl rfl rfl Kz rfl rfl rfl (.inl rfl) (fun w f h=>h.blk) (fun w f w2 h hM hC hb=>Ef.store h hC hb) Ef.stab<|go Du 1 [] (fun _=>Ax [1] rfl<|B3<|go Du 3 [] (fun _=>?_))
 obtain⟨n,rfl⟩:=ED h1
 have hvs:CR (T1.var n).one l=l++[n]:=by rw[Nq,if_neg (by rw[show l.contains n=false from h2];decide)]
 exact AY (fun w f hM=>DT rfl) (fun w f hM=>⟨(a2,c2),f,rfl,trivial,hM.exm,(fun b hb=>let ⟨h1,h2,h3⟩:=hM.mi b hb;h3.elim (fun h=>.inr ⟨h,h1,h2⟩) .inl),(by rw[hvs];have h9:=hM.res;rw[show l.length+1=(l++[n]).length by simp] at h9;exact h9),trivial⟩)
 replace h2:=Gn h2
 refine go Du 5 [] (fun _=>?_)
 obtain⟨n,rfl⟩:=ED h1
 have hvs:CR (T1.var n).one l=l:=by rw[Nq];exact if_pos h2
 exact AY (fun w f hM=>DT rfl) (fun w f hM=>⟨(oa,oc),f,rfl,trivial,hM.exm,(fun b hb=>let ⟨h1,h2,h3⟩:=hM.mi b hb;h3.elim (fun h=>.inr ⟨h,h1,h2⟩) .inl),(by rw[hvs];exact hM.res),trivial⟩)
 refine go Du 12 [0] (y<|fun _=>?_)
 refine H9 (α:=Nat×Ty×List Int×Option Addr×Nat) (fun x=>x.2.1.len) (fun x=>x.1+x.2.1.len=t.kids.len∧CR t.kids l=CR x.2.1 x.2.2.1∧x.2.1.bnd∧x.2.1.size+x.2.2.1.length≤1000000∧x.2.1.size≤t.kids.size) (fun x=>(E6 1 (.map (some mb)) 2 (.pointer (some ⟨ob,0,none⟩)) 3 (.pointer (some ⟨b1,0,none⟩)) 29 (.slice a t.kids.len c) 30 (.int .i64 (t.kids.len:Int)) 31 (.int .i64 (x.1:Int)))) (fun x=>⟨M6 ob mb oa,M6 ob mb x.2.2.2.1,Qt 90 ob mb x.2.2.2.1 x.2.2.2.2 x.2.2.1,w,f⟩) (fun x=>[⟨b1,tC t a c,56,true⟩]) (fun x=>[]) (fun x=>[]) (fun x=>[fun w f=>AW w f a x.1 x.2.1]) (0,t.kids,l,oa,oc) ⟨by simp,rfl,hbd.2,(by show t.kids.size+l.length≤1000000;omega),Nat.le_refl _⟩ lE (fun w f hM=>hM.more (B':=[]) (F':=[fun w f=>AW w f a 0 t.kids]) nE (A1.mem ⟨Ah.at hM.f0,trivial⟩) (Af.mem ⟨AW.mono,trivial⟩) |>.less sR sR nE (mR [0])) ?_
 rintro⟨i,r,l2,oa2,oc2⟩ ⟨hi,hk,hrb,hsz,hs⟩
 dsimp only at hi hk hrb hsz hs ⊢
 refine go Du 6 [] (fun _=>AZ 32 rfl rfl (fun h3=>?_) (fun h3=>?_))
 refine go Du 6 [] (fun _=>?_)
 have hil:i<t.kids.len:=by have:=of_decide_eq_true h3;omega
 obtain⟨t2,r,rfl⟩:=Ty.cases1 r oM
 rw[T1.len_cons] at hi
 refine CB (α:=Nat×Nat×Option Addr×Nat) (fun x=>a=some ⟨x.1,x.2.1,none⟩) (fun x=>[⟨x.1,x.2.1+i*4,tC t2 x.2.2.1 x.2.2.2⟩]) (fun x=>[fun w f=>Ah w f t2.kids x.2.2.1 x.2.2.2,fun w f=>AW w f a (i+1) r]) (fun w f hM=>let ⟨b,off,ka,kc,h1,h2,h3,h4⟩:=AW.head hM.f0;⟨(b,off,ka,kc),h1,(oE h2),A1.mem ⟨h3,h4,trivial⟩⟩) (fun x=>Af.mem ⟨Ah.mono,AW.mono,trivial⟩) ?_
 rintro⟨eb,eo,ka,kc⟩ rfl
 refine go Du 11 [100,0,0,0] (And.intro oM<|y2<|fun b4=>y<|y<|fun _=>bG (XX:=fun _ _=>False) rfl rfl (eC XQ rfl rfl) (fun w f hM=>(ih w f hM.vl ob mb oa2 oc2 l2 hM.res hM.mz t2 ka kc (by have:=T1.size_cons t2 r;omega) (by have:=T1.size_cons t2 r;omega) (T1.bnd_cons.1 hrb).1 hM.f0).retP) (fun _=>Ef.stab) (fun _=>trivial) (fun _ _ _ _ _ h=>h.elim) ?_)
 rintro⟨oa3,oc3⟩ -
 exact go Du 7 [] (And.intro ⟨oM,oM⟩<|fun _=>Eb ((i+1,r,CR t2.one l2,oa3,oc3)) (show r.len<(t2.cons r).len by rw[T1.len_cons];omega) ⟨show i+1+r.len=t.kids.len by omega,show CR t.kids l=CR r (CR t2.one l2) by rw[hk,VP],(T1.bnd_cons.1 hrb).2,show r.size+(CR t2.one l2).length≤1000000 by have h1:=T1.size_cons t2 r;have h2:=Jv t2.one l2;have h3:t2.one.size=t2.kids.size+0+1:=T1.size_cons t2 .nil;omega,show r.size≤t.kids.size by have:=T1.size_cons t2 r;omega⟩ lE (fun w f hM=>⟨_,hM.less (.cons _ sR) sR nE (mR [1])⟩))
 refine go Du 3 [] (fun _=>Hc<|go Du 1 [] (fun _=>?_))
 obtain rfl:r=.nil:=Ty.len0 (by have:=of_decide_eq_false h3;omega)
 obtain⟨tx,kk,rfl⟩:=FR h1
 have hvs:CR (T1.con tx kk).one l=l2:=by rw[YX];exact hk
 exact aG (fun w f hM=>DT rfl) (fun w f hM=>⟨(oa2,oc2),f,rfl,trivial,hM.exm,(fun b hb=>let ⟨h1,h2,h3⟩:=hM.mi b hb;h3.elim (fun h=>.inr ⟨h,h1,h2⟩) .inl),(by rw[hvs];exact hM.res),trivial⟩)
theorem Wb(w:World)(f:Fq)(hv:Vl w f)(ob mb:Nat)(a:Option Addr)(c:Nat)(l:List Int)(hV:Qt 90 ob mb a c l w f)(hf:∀b,M6 ob mb a b→f b=0)(t:T1)(ta:Option Addr)(tc:Nat)(hsz:t.kids.size+1+l.length≤1000000)(hb:t.bnd)(hT:Ah w f t.kids ta tc) :
  BF Tryz.prog 78 #[tV t ta tc,.map (some mb),.pointer (some ⟨ob,0,none⟩)] w (O0 (α:=Option Addr×Nat) (fun _=>.tuple #[]) (fun _=>True) (M6 ob mb a) (fun x=>M6 ob mb x.1) (fun x=>Qt 90 ob mb x.1 x.2 (CR t.one l)) (fun _=>[]) w f) :=
 Mz (p:=eP Tryz.prog 78 90) (fun w f hv ob mb a c l _ _ t ta tc h=>by omega) (fun m ih w f hv ob mb a c l h1 h2 t ta tc h3 h4 h5 h6=>WQ m ih w f hv ob mb a c l h1 h2 t ta tc h3 h4 h5 h6) (t.kids.size+1) w f hv ob mb a c l hV hf t ta tc (Nat.lt_succ_self _) hsz hb hT
theorem GW(w:World)(f:Fq)(hv:Vl w f)(t:T1)(a:Option Addr)(c:Nat)(hsz:t.kids.size+1≤1000000)(hb:t.bnd)(hT:Ah w f t.kids a c) :
  BF Tryz.prog 52 #[tV t a c] w (BV (α:=Option Addr×Nat) (fun x=>.slice x.1 (Aq t).length x.2) (fun _=>True) (fun x=>[fun w f=>BN w f (Aq t) x.1 x.2]) w f):=by
 refine Dg (X:=X0 w f) (H:=[]) (R:=[]) (B:=[]) (Fs:=[fun w f=>Ah w f t.kids a c]) (f:=f) Tryz.func52 rfl rfl rfl (C7 hv ⟨hT,trivial⟩ ⟨Ah.mono,trivial⟩)<|go Du 14 [1] (fun b1=>fun b2=>y<|fun _=>pF (K:=Fp) rfl rfl fun m1=>mY 0 rfl rfl<|Ky (fun w f hM=>(fun e=>(by have h1:=hM.res.1.2.lt;have h2:=hM.res.2;subst e;obtain⟨es,c,h3,_⟩:=hM.res.1.2;have h4:=h2.symm.trans h3;cases h4):b2≠m1)) fun hne=>bG (α:=Option Addr×Nat) (val:=fun _=>.tuple #[]) (q:=fun _=>True) (MI':=fun x=>M6 b2 m1 x.1) (I':=fun x=>Qt 90 b2 m1 x.1 x.2 (Aq t)) (F':=fun _=>[]) (XX:=fun _ _=>False) rfl rfl (eC XQ rfl rfl) (fun w f hM=>((Wb w f hM.vl b2 m1 none 0 [] ⟨hM.res.2,hM.res.1.2,G9 _ _ _,⟨hne,by simp[rb],by simp[rb]⟩,List.nodup_nil⟩ (fun b hb=>(hM.mi b (hb.elim .inr (fun h=>h.elim (fun h=>.inl (.inr h)) (fun h=>by cases h)))).2.1) t a c hsz hb hM.f0).mono fun v w2 ⟨x,f2,h1,h2,h3,h4,h5,h6⟩=>⟨x,f2,h1,h2,h3.mono (fun b hb=>hb.elim .inr (fun h=>h.elim (fun h=>.inl (.inr h)) (fun h=>by cases h))),(fun b hb=>(h4 b hb).imp (fun hb=>hb.elim .inr (fun h=>h.elim (fun h=>.inl (.inr h)) (fun h=>by cases h))) id),h5,h6⟩).retP) (fun _=>Ef.stab) (fun _=>trivial) (fun _ _ _ _ _ h=>h.elim) ?_)
 rintro⟨oa3,oc3⟩ -
 exact go Du 4 [] (fun _=>Fh rfl rfl (fun w f hM=>Al rfl Kz hM.res.blk rfl)<|go Du 4 [] (fun _=>AY (Dz rfl rfl) (fun w f hM=>let ⟨f2,hE,hF⟩:=Ef.int hM.res hM.exm (fun b hb=>(hM.mi b (.inr (.inr hb))).2.2.elim id (fun h=>h.elim));⟨(oa3,oc3),f2,rfl,trivial,hE,⟨hF,trivial⟩⟩)))
end Go.Proofs.YthofplgbhecdcaaGreatDoor
namespace Go.Proofs
open Go.Shelf
def Tryz.lays156_ren:Go.Shelf.Ren:=⟨fun|156=>81|165=>104|166=>105|169=>106|240=>126|241=>127|276=>149|277=>150|n=>n,fun|31=>131|9=>9|3=>3|4=>4|0=>0|20=>20|72=>169|76=>173|70=>167|37=>148|75=>172|127=>196|164=>225|5=>5|80=>175|n=>n,fun|n=>n⟩
theorem Tryz.lays156:Go.Proofs.Lays.n156 Tryz.prog Tryz.lays156_ren:={
 mixed:=kR
 f156:=Tryz.func81.trans (congrArg some kR)
 f165:=Tryz.func104.trans (congrArg some kR)
 f166:=Tryz.func105.trans (congrArg some kR)
 f169:=Tryz.func106.trans (congrArg some kR)
 f240:=Tryz.func126.trans (congrArg some kR)
 f241:=Tryz.func127.trans (congrArg some kR)
 f276:=Tryz.func149.trans (congrArg some kR)
 f277:=Tryz.func150.trans (congrArg some kR)
 t0:=Tryz.underlying0
 a0:=Tryz.isAgg0
 z0:=Tryz.sizeOf0
 v0:=Tryz.zeroValue0
 t3:=Tryz.underlying3
 a3:=Tryz.isAgg3
 z3:=Tryz.sizeOf3
 v3:=Tryz.zeroValue3
 t4:=Tryz.underlying4
 a4:=Tryz.isAgg4
 z4:=Tryz.sizeOf4
 v4:=Tryz.zeroValue4
 t9:=Tryz.underlying9
 a9:=Tryz.isAgg9
 z9:=Tryz.sizeOf9
 v9:=Tryz.zeroValue9
 t20:=Tryz.underlying20
 a20:=Tryz.isAgg20
 z20:=Tryz.sizeOf20
 v20:=Tryz.zeroValue20
 t31:=Tryz.underlying131
 a31:=Tryz.isAgg131
 z31:=Tryz.sizeOf131
 v31:=Tryz.zeroValue131
 t37:=Tryz.underlying148
 a37:=Tryz.isAgg148
 z37:=Tryz.sizeOf148
 v37:=Tryz.zeroValue148
 t70:=Tryz.underlying167
 a70:=Tryz.isAgg167
 z70:=Tryz.sizeOf167
 v70:=Tryz.zeroValue167
 t72:=Tryz.underlying169
 a72:=Tryz.isAgg169
 z72:=Tryz.sizeOf169
 v72:=Tryz.zeroValue169
 t75:=Tryz.underlying172
 a75:=Tryz.isAgg172
 z75:=Tryz.sizeOf172
 v75:=Tryz.zeroValue172
 t76:=Tryz.underlying173
 a76:=Tryz.isAgg173
 z76:=Tryz.sizeOf173
 v76:=Tryz.zeroValue173
 t127:=Tryz.underlying196
 a127:=Tryz.isAgg196
 z127:=Tryz.sizeOf196
 v127:=Tryz.zeroValue196
 t164:=Tryz.underlying225
 a164:=Tryz.isAgg225
 z164:=Tryz.sizeOf225
 v164:=Tryz.zeroValue225}
def Tryz.lays171_ren:Go.Shelf.Ren:=⟨fun|171=>80|243=>103|246=>125|283=>145|284=>146|285=>147|286=>148|129=>162|317=>161|318=>163|319=>164|320=>165|337=>175|338=>176|n=>n,fun|3=>3|9=>9|2=>2|4=>4|171=>220|0=>0|53=>29|37=>148|5=>5|173=>223|212=>243|51=>190|20=>20|213=>244|46=>177|232=>288|233=>289|n=>n,fun|17=>4|18=>12|19=>13|n=>n⟩
theorem Tryz.lays171:Go.Proofs.Lays.n171 Tryz.prog Tryz.lays171_ren:={
 mixed:=kR
 f129:=Tryz.func162.trans (congrArg some kR)
 f171:=Tryz.func80.trans (congrArg some kR)
 f243:=Tryz.func103.trans (congrArg some kR)
 f246:=Tryz.func125.trans (congrArg some kR)
 f283:=Tryz.func145.trans (congrArg some kR)
 f284:=Tryz.func146.trans (congrArg some kR)
 f285:=Tryz.func147.trans (congrArg some kR)
 f286:=Tryz.func148.trans (congrArg some kR)
 f317:=Tryz.func161.trans (congrArg some kR)
 f318:=Tryz.func163.trans (congrArg some kR)
 f319:=Tryz.func164.trans (congrArg some kR)
 f320:=Tryz.func165.trans (congrArg some kR)
 f337:=Tryz.func175.trans (congrArg some kR)
 f338:=Tryz.func176.trans (congrArg some kR)
 t0:=Tryz.underlying0
 a0:=Tryz.isAgg0
 z0:=Tryz.sizeOf0
 v0:=Tryz.zeroValue0
 t2:=Tryz.underlying2
 a2:=Tryz.isAgg2
 z2:=Tryz.sizeOf2
 v2:=Tryz.zeroValue2
 t3:=Tryz.underlying3
 a3:=Tryz.isAgg3
 z3:=Tryz.sizeOf3
 v3:=Tryz.zeroValue3
 t4:=Tryz.underlying4
 a4:=Tryz.isAgg4
 z4:=Tryz.sizeOf4
 v4:=Tryz.zeroValue4
 t5:=Tryz.underlying5
 a5:=Tryz.isAgg5
 z5:=Tryz.sizeOf5
 v5:=Tryz.zeroValue5
 t9:=Tryz.underlying9
 a9:=Tryz.isAgg9
 z9:=Tryz.sizeOf9
 v9:=Tryz.zeroValue9
 t20:=Tryz.underlying20
 a20:=Tryz.isAgg20
 z20:=Tryz.sizeOf20
 v20:=Tryz.zeroValue20
 t37:=Tryz.underlying148
 a37:=Tryz.isAgg148
 z37:=Tryz.sizeOf148
 v37:=Tryz.zeroValue148
 t46:=Tryz.underlying177
 a46:=Tryz.isAgg177
 z46:=Tryz.sizeOf177
 v46:=Tryz.zeroValue177
 t51:=Tryz.underlying190
 a51:=Tryz.isAgg190
 z51:=Tryz.sizeOf190
 v51:=Tryz.zeroValue190
 t53:=Tryz.underlying29
 a53:=Tryz.isAgg29
 z53:=Tryz.sizeOf29
 v53:=Tryz.zeroValue29
 t171:=Tryz.underlying220
 a171:=Tryz.isAgg220
 z171:=Tryz.sizeOf220
 v171:=Tryz.zeroValue220
 t173:=Tryz.underlying223
 a173:=Tryz.isAgg223
 z173:=Tryz.sizeOf223
 v173:=Tryz.zeroValue223
 t212:=Tryz.underlying243
 a212:=Tryz.isAgg243
 z212:=Tryz.sizeOf243
 v212:=Tryz.zeroValue243
 t213:=Tryz.underlying244
 a213:=Tryz.isAgg244
 z213:=Tryz.sizeOf244
 t232:=Tryz.underlying288
 a232:=Tryz.isAgg288
 z232:=Tryz.sizeOf288
 v232:=Tryz.zeroValue288
 t233:=Tryz.underlying289
 a233:=Tryz.isAgg289
 z233:=Tryz.sizeOf289
 v233:=Tryz.zeroValue289
 g17:=kR
 g18:=kR
 g19:=by kernel_rfl}
def Tryz.lays157_ren:Go.Shelf.Ren:=⟨fun|157=>67|229=>95|199=>96|261=>119|311=>142|312=>143|n=>n,fun|9=>9|31=>131|3=>3|5=>5|4=>4|119=>157|0=>0|40=>159|152=>187|21=>21|154=>189|51=>190|141=>192|196=>210|193=>207|198=>213|49=>211|194=>208|201=>216|226=>240|46=>177|227=>241|n=>n,fun|0=>0|6=>1|n=>n⟩
theorem Tryz.lays157:Go.Proofs.Lays.n157 Tryz.prog Tryz.lays157_ren:={
 mixed:=kR
 f157:=Tryz.func67.trans (congrArg some kR)
 f199:=Tryz.func96.trans (congrArg some kR)
 f229:=Tryz.func95.trans (congrArg some kR)
 f261:=Tryz.func119.trans (congrArg some kR)
 f311:=Tryz.func142.trans (congrArg some kR)
 f312:=Tryz.func143.trans (congrArg some kR)
 t0:=Tryz.underlying0
 a0:=Tryz.isAgg0
 z0:=Tryz.sizeOf0
 v0:=Tryz.zeroValue0
 t3:=Tryz.underlying3
 a3:=Tryz.isAgg3
 z3:=Tryz.sizeOf3
 v3:=Tryz.zeroValue3
 t4:=Tryz.underlying4
 a4:=Tryz.isAgg4
 z4:=Tryz.sizeOf4
 v4:=Tryz.zeroValue4
 t5:=Tryz.underlying5
 a5:=Tryz.isAgg5
 z5:=Tryz.sizeOf5
 v5:=Tryz.zeroValue5
 t9:=Tryz.underlying9
 a9:=Tryz.isAgg9
 z9:=Tryz.sizeOf9
 v9:=Tryz.zeroValue9
 t21:=Tryz.underlying21
 a21:=Tryz.isAgg21
 z21:=Tryz.sizeOf21
 v21:=Tryz.zeroValue21
 t31:=Tryz.underlying131
 a31:=Tryz.isAgg131
 z31:=Tryz.sizeOf131
 v31:=Tryz.zeroValue131
 t40:=Tryz.underlying159
 a40:=Tryz.isAgg159
 z40:=Tryz.sizeOf159
 v40:=Tryz.zeroValue159
 t46:=Tryz.underlying177
 a46:=Tryz.isAgg177
 z46:=Tryz.sizeOf177
 v46:=Tryz.zeroValue177
 t49:=Tryz.underlying211
 a49:=Tryz.isAgg211
 z49:=Tryz.sizeOf211
 v49:=Tryz.zeroValue211
 t51:=Tryz.underlying190
 a51:=Tryz.isAgg190
 z51:=Tryz.sizeOf190
 v51:=Tryz.zeroValue190
 t119:=Tryz.underlying157
 a119:=Tryz.isAgg157
 z119:=Tryz.sizeOf157
 t141:=Tryz.underlying192
 a141:=Tryz.isAgg192
 z141:=Tryz.sizeOf192
 v141:=Tryz.zeroValue192
 t152:=Tryz.underlying187
 a152:=Tryz.isAgg187
 z152:=Tryz.sizeOf187
 v152:=Tryz.zeroValue187
 t154:=Tryz.underlying189
 a154:=Tryz.isAgg189
 z154:=Tryz.sizeOf189
 v154:=Tryz.zeroValue189
 t193:=Tryz.underlying207
 a193:=Tryz.isAgg207
 z193:=Tryz.sizeOf207
 v193:=Tryz.zeroValue207
 t194:=Tryz.underlying208
 a194:=Tryz.isAgg208
 z194:=Tryz.sizeOf208
 v194:=Tryz.zeroValue208
 t196:=Tryz.underlying210
 a196:=Tryz.isAgg210
 z196:=Tryz.sizeOf210
 v196:=Tryz.zeroValue210
 t198:=Tryz.underlying213
 a198:=Tryz.isAgg213
 z198:=Tryz.sizeOf213
 v198:=Tryz.zeroValue213
 t201:=Tryz.underlying216
 a201:=Tryz.isAgg216
 z201:=Tryz.sizeOf216
 v201:=Tryz.zeroValue216
 t226:=Tryz.underlying240
 a226:=Tryz.isAgg240
 z226:=Tryz.sizeOf240
 v226:=Tryz.zeroValue240
 t227:=Tryz.underlying241
 a227:=Tryz.isAgg241
 z227:=Tryz.sizeOf241
 v227:=Tryz.zeroValue241
 g0:=kR
 g6:=by kernel_rfl}
end Go.Proofs
namespace Go.Proofs.YthofplgbhecdcaaGreatDoor
open Go.SW Go.SP Go.RowKit Go.Shelf
theorem WJ(w:World)(f:Fq)(hv:Vl w f)(i:Nat)(hi:i<100):BF Tryz.prog 80 #[.int .i64 (i:Int)] w (BV (α:=Unit) (fun _=>S (Lib.decDigits i)) (fun _=>True) (fun _=>[]) w f) :=
 Calls.mono (Any.strconv_Itoa_small Tryz.lays171 i hi w) fun _ _ ⟨he,hw⟩=>⟨_,he,(),f,rfl,trivial,(by subst hw;exact CM.refl _ hv),trivial⟩
theorem uR:Builder.Extra Tryz.prog Tryz.lays156_ren where
 sizeBuilder:=kR
 liesBuilder:=kR
 t5:=Tryz.underlying5
 a5:=Tryz.isAgg5
 z5:=Tryz.sizeOf5
 v5:=Tryz.zeroValue5
 infoByte:=kR
 cellsByte:=kR
 sizeByte:=kR
 neB5:=dC
theorem VS(w:World)(f:Fq)(hv:Vl w f)(bk o c:Nat)(l:List (List UInt8))(s:List UInt8)(hc:Cs w f bk o (l.map S))(h0:0<l.length)(hN:l.length≤1000000)(hcap:l.length≤c)(hlen:(Lib.join l s).length≤140737488355328) :
   BF Tryz.prog 81 #[.slice (some ⟨bk,o,none⟩) l.length c,S s] w (BV (α:=Unit) (fun _=>S (Lib.join l s)) (fun _=>True) (fun _=>[]) w f):=by
 have e1:(l.map fun x=>(⟨x.toArray⟩:ByteArray)).map (·.data.toList)=l:=by rw[List.map_map];exact List.map_id' l
 have hbk:bk<w.heap.size:=by
   obtain⟨x,hx⟩:∃x,l[0]?=some x:=⟨_,List.getElem?_eq_getElem h0⟩
   exact IU (hc 0 (S x) (by rw[List.getElem?_map,hx];rfl)).2
 have h:=Any.strings_Join Tryz.lays156 uR bk o c (l.map fun x=>⟨x.toArray⟩) ⟨s.toArray⟩ w (fun j x hj=>by
   rw[List.getElem?_map] at hj
   cases hx:l[j]? with
   |none=>rw[hx] at hj;cases hj
   |some y=>rw[hx] at hj;cases hj;exact (hc j (S y) (by rw[List.getElem?_map,hx];rfl)).2) hbk (by rw[List.length_map];omega) (by rw[List.length_map];exact hcap) (by rw[e1];exact hlen)
 rw[e1,List.length_map] at h
 exact Calls.mono h fun _ _ ⟨he,hw⟩=>⟨_,he,(),f,rfl,trivial,Go.SW.Below.exm hw hv _,trivial⟩
end Go.Proofs.YthofplgbhecdcaaGreatDoor
namespace Go.Proofs.YthofplgbhecdcaaGreatDoor
open Go.SW Go.SP Go.RowKit
def rK:Ea:=⟨[(56,0,0),(56,1,1),(56,3,3),(56,2,2)],[(52,56,4),(131,9,1)],[],[],[(3,false,1),(52,false,1),(9,false,1),(56,true,4)],[(9,[.string ⟨#[]⟩]),(56,[.int .i64 0,.int .i64 0,.string ⟨#[]⟩,.slice none 0 0])],[],[]⟩
theorem EG:rK.Ok Tryz.prog:=⟨(And.intro HI (And.intro IJ (And.intro F4 (And.intro PF trivial)))),(And.intro DI (And.intro Yu trivial)),trivial,trivial,(And.intro CZ (And.intro H0 (And.intro Hx (And.intro AJ trivial)))),(And.intro sM (And.intro DD trivial)),trivial,trivial⟩
theorem QP(w:World)(f:Fq)(hv:Vl w f)(n:Nat)(hn:n<2000) :
  BF Tryz.prog 56 #[.int .i64 (n:Int)] w (BV (α:=Unit) (fun _=>S (DY n)) (fun _=>True) (fun _=>[]) w f):=by
 have hdl:(Lib.decDigits (n / 26)).length≤20:=by rw[← QC 19 (n / 26) (by omega)];exact MX 20 _
 refine Dg (X:=X0 w f) (H:=[]) (R:=[]) (B:=[]) (Fs:=[]) (f:=f) Tryz.func56 rfl rfl rfl (C7 hv trivial trivial)<|go EG 8 [] (fun _=>Fh rfl rfl (fun w f hM=>aL ((n % 26:Nat):Int) rfl rfl dC (by rw[Int.tmod_eq_emod_of_nonneg (by omega)];omega))<|go EG 1 [] (And.intro ⟨oM,oM⟩<|fun _=>Fh rfl rfl (fun w f hM=>Dh (m:=97+((n % 26:Nat):Int)) rfl cD (by unfold IntKind.wrap;simp[IntKind.bits,IntKind.signed];omega))<|Fh rfl rfl (fun w f hM=>gJ rfl aW (TC n))<|go EG 11 [] (And.intro (by simp <;> omega)<|fun _=>AZ 11 rfl rfl (fun h1=>?_) (fun h1=>?_))))
 refine go EG 4 [] (fun _=>Fh rfl rfl (fun w f hM=>aU ((n / 26:Nat):Int) rfl rfl dC (by rw[Int.tdiv_eq_ediv_of_nonneg (by omega),IS (by omega)];omega))<|B8 rfl rfl (eC kM rfl rfl) (fun w f hM=>WJ w f hM.vl (n / 26) oM) (fun x=>trivial) ?_)
 rintro⟨⟩ -
 refine go EG 11 [] (And.intro (by simp <;> omega)<|fun _=>?_)
 have hlt:DY n=[39,UInt8.ofNat (97+n % 26)]++Lib.decDigits (n / 26):=by unfold DY;rw[if_neg (by have:=of_decide_eq_true h1;omega),QC 19 (n / 26) (by omega)]
 exact AY (Dz rfl rfl) (fun w f hM=>⟨(),f,(by rw[hlt];rfl),trivial,hM.exm,trivial⟩)
 refine go EG 10 [] (fun _=>?_)
 have hlt:DY n=[39,UInt8.ofNat (97+n % 26)]:=by unfold DY;rw[if_pos (by have:=of_decide_eq_false h1;omega)];rfl
 exact AY (Dz rfl rfl) (fun w f hM=>⟨(),f,(by rw[hlt];rfl),trivial,hM.exm,trivial⟩)
theorem Wn(m:Nat)(ih:cZ Tryz.prog 57 m)(w:World)(f:Fq)(hv:Vl w f)(mb:Nat)(vs:List Int)(es:List (Int×Value))(hMp:Ci Fp w mb es)(hL:Ma vs es)(t:T1)(a:Option Addr)(c:Nat)(hm:t.kids.size<m+1)(hsz:t.kids.size≤1000000)(hbd:t.bnd)(hT:Ah w f t.kids a c) :
  BF Tryz.prog 57 #[tV t a c,.map (some mb)] w (BV (α:=Unit) (fun _=>S (Ox vs t)) (fun _=>True) (fun _=>[]) w f):=by
 have hbl:=hbd.1
 have hlm:=hMp.lt
 refine Dg (X:=X0 w f) (H:=[]) (R:=[]) (B:=[]) (Fs:=[fun w f=>Ah w f t.kids a c]) (f:=f) Tryz.func57 rfl rfl rfl (C7 hv ⟨hT,trivial⟩ ⟨Ah.mono,trivial⟩)<|go EG 16 [0] (fun b1=>y<|fun _=>AZ 8 rfl rfl (fun h1=>?_) (fun h1=>?_))
 refine go EG 6 [0] (y<|fun _=>Fh rfl rfl (fun w f hM=>Ns (K:=Fp) (a:=t.num) rfl rfl YM O1 qY (hMp.heap (hM.exm.stp.block mb hlm (fun h=>h))) hL.1 (hL.get t.num))<|go EG 6 [] (fun _=>?_))
 obtain⟨n,rfl⟩:=ED h1
 exact AY (Dz rfl rfl) (fun w f hM=>⟨(),f,rfl,trivial,hM.exm,trivial⟩)
 refine go EG 10 [0] (y<|fun _=>AZ 16 rfl rfl (fun h2=>?_) (fun h2=>?_))
 refine go EG 11 [0] (y<|fun _=>?_)
 obtain⟨tx,kk,rfl⟩:=FR h1
 obtain rfl:kk=.nil:=Ty.len0 (by have h9:=beq_iff_eq.1 h2;simp only[T1.kids] at h9;omega)
 exact AY (Dz rfl rfl) (fun w f hM=>⟨(),f,(by rw[Vw];rfl),trivial,hM.exm,trivial⟩)
 refine go EG 22 [0,1] (y<|fun b2=>y<|fun _=>lW 0 1 1 rfl rfl rfl dC ?_)
 refine H9 (α:=Nat×Ty×List (List UInt8)×Option Addr×Nat) (fun x=>x.2.1.len) (fun x=>x.1+x.2.1.len=t.kids.len∧x.2.2.1.length=x.1∧DM vs t.kids=Lib.joinTail [32] x.2.2.1++DM vs x.2.1∧x.2.1.bnd∧x.2.1.size≤t.kids.size) (fun x=>(E6 1 (.map (some mb)) 2 (.pointer (some ⟨b1,0,none⟩)) 5 (.slice x.2.2.2.1 (x.1+1) x.2.2.2.2) 27 (.slice a t.kids.len c) 28 (.int .i64 (t.kids.len:Int)) 29 (.int .i64 (x.1:Int)))) (fun x=>X0 w f) (fun x=>[⟨b1,tC t a c,56,true⟩]) (fun x=>[⟨9,1,x.2.2.2.1,x.2.2.2.2,x.1+1,(t.tx::x.2.2.1).map S⟩]) (fun x=>[]) (fun x=>[fun w f=>AW w f a x.1 x.2.1]) (0,t.kids,[],some ⟨b2,0,none⟩,1) ⟨by simp,rfl,rfl,hbd.2,Nat.le_refl _⟩ lE (fun w f hM=>hM.more (B':=[]) (F':=[fun w f=>AW w f a 0 t.kids]) nE (A1.mem ⟨Ah.at hM.f0,trivial⟩) (Af.mem ⟨AW.mono,trivial⟩) |>.less sR sR nE (mR [0])) ?_
 rintro⟨i,r,l,ra,rc⟩ ⟨hi,hl,hk,hrb,hs⟩
 dsimp only at hi hl hk hrb hs ⊢
 refine go EG 6 [] (fun _=>AZ 30 rfl rfl (fun h3=>?_) (fun h3=>?_))
 refine go EG 6 [] (fun _=>?_)
 have hil:i<t.kids.len:=by have:=of_decide_eq_true h3;omega
 obtain⟨t2,r,rfl⟩:=Ty.cases1 r oM
 rw[T1.len_cons] at hi
 refine CB (α:=Nat×Nat×Option Addr×Nat) (fun x=>a=some ⟨x.1,x.2.1,none⟩) (fun x=>[⟨x.1,x.2.1+i*4,tC t2 x.2.2.1 x.2.2.2⟩]) (fun x=>[fun w f=>Ah w f t2.kids x.2.2.1 x.2.2.2,fun w f=>AW w f a (i+1) r]) (fun w f hM=>let ⟨b,off,ka,kc,h1,h2,h3,h4⟩:=AW.head hM.f0;⟨(b,off,ka,kc),h1,(oE h2),A1.mem ⟨h3,h4,trivial⟩⟩) (fun x=>Af.mem ⟨Ah.mono,AW.mono,trivial⟩) ?_
 rintro⟨eb,eo,ka,kc⟩ rfl
 refine go EG 11 [100,0,0,0] (And.intro oM<|y2<|fun b3=>y<|y<|fun _=>B8 rfl rfl (eC YF rfl rfl) (fun w f hM=>ih w f hM.vl mb vs es (hMp.heap (hM.exm.stp.block mb hlm (fun h=>h))) hL t2 ka kc (by have:=T1.size_cons t2 r;omega) (by have:=T1.size_cons t2 r;omega) (T1.bnd_cons.1 hrb).1 hM.f0) (fun x=>trivial) ?_)
 rintro⟨⟩ -
 exact go EG 1 [] (fun b4=>fun _=>DH 0 0 rfl rfl jD rfl rfl rfl rfl rfl rfl rfl rfl (fun _ _=>rfl) oM oM fun ra2 rc2=>go EG 8 [] (And.intro ⟨oM,oM⟩<|fun _=>Eb ((i+1,r,l++[Ox vs t2],ra2,rc2)) (show r.len<(t2.cons r).len by rw[T1.len_cons];omega) ⟨show i+1+r.len=t.kids.len by omega,show (l++[Ox vs t2]).length=i+1 by simp[hl],show DM vs t.kids=Lib.joinTail [32] (l++[Ox vs t2])++DM vs r by rw[hk,LO,TQ];simp,(T1.bnd_cons.1 hrb).2,show r.size≤t.kids.size by have:=T1.size_cons t2 r;omega⟩ lE (fun w f hM=>⟨_,by have hM2:=hM.less (H':=[⟨b1,tC t (some ⟨eb,eo,none⟩) c,56,true⟩]) (R':=[⟨9,1,ra2,rc2,i+1+1,(t.tx::l).map S++[S (Ox vs t2)]⟩]) (B':=[]) (F':=[fun w f=>AW w f (some ⟨eb,eo,none⟩) (i+1) r]) (.cons _ (.cons _ sR)) sR nE (mR [1]);rw[show (t.tx::l).map S++[S (Ox vs t2)]=(t.tx::(l++[Ox vs t2])).map S by simp] at hM2;exact hM2⟩)))
 refine go EG 3 [] (fun _=>Hc<|go EG 3 [] (fun _=>?_))
 obtain rfl:r=.nil:=Ty.len0 (by have:=of_decide_eq_false h3;omega)
 rw[show DM vs .nil=[] from rfl,List.append_nil] at hk
 refine Ky (fun w f hM=>(let ⟨_,h⟩:=hM.row _ (.head _);h.elim (fun h=>by simp at h) (fun⟨b,q,h1,h2,h3,_⟩=>⟨b,h1,h3⟩):∃b,ra=some ⟨b,0,none⟩∧i+1≤rc)) fun hra=>?_
 obtain⟨rb1,rfl,hrc⟩:=hra
 refine dR 0 rfl rfl ?_
 have hjn:Lib.join (t.tx::l) [32]=t.tx++DM vs t.kids:=by rw[Lib.join_cons,hk]
 have hjl:(t.tx++DM vs t.kids).length≤1100000000000:=by have h1:=Lt vs t.kids hbd.2;have h2:=hbl.2;rw[List.length_append];omega
 refine go EG 2 [] (fun _=>B8 (α:=Unit) (val:=fun _=>S (t.tx++DM vs t.kids)) (q:=fun _=>True) (F':=fun _=>[]) rfl rfl (eC fN rfl rfl) (fun w f hM=>(by have h9:=VS w f hM.vl rb1 0 rc (t.tx::l) [32] hM.b0 (by simp) (by simp;omega) (by simp;omega) (by rw[hjn];omega);rw[hjn,show (t.tx::l).length=i+1 by simp[hl]] at h9;exact h9)) (fun x=>trivial) ?_)
 rintro⟨⟩ -
 refine go EG 6 [] (And.intro (by simp at hjl ⊢;omega)<|And.intro (by simp at hjl ⊢;omega)<|fun _=>?_)
 obtain⟨tx,kk,rfl⟩:=FR h1
 have hsc:=YI vs tx kk (by have h9:¬(kk.len:Int)=0:=(by simpa[T1.kids] using h2);omega)
 exact AY (Dz rfl rfl) (fun w f hM=>⟨(),f,(by rw[hsc];rfl),trivial,hM.exm,trivial⟩)
theorem WV(w:World)(f:Fq)(hv:Vl w f)(mb:Nat)(vs:List Int)(es:List (Int×Value))(hMp:Ci Fp w mb es)(hL:Ma vs es)(t:T1)(a:Option Addr)(c:Nat)(hsz:t.kids.size≤1000000)(hb:t.bnd)(hT:Ah w f t.kids a c) :
  BF Tryz.prog 57 #[tV t a c,.map (some mb)] w (BV (α:=Unit) (fun _=>S (Ox vs t)) (fun _=>True) (fun _=>[]) w f) :=
 Mz (p:=cZ Tryz.prog 57) (fun w f hv mb vs es _ _ t a c h=>by omega) (fun m ih w f hv mb vs es h1 h2 t a c h3 h4 h5 h6=>Wn m ih w f hv mb vs es h1 h2 t a c h3 h4 h5 h6) (t.kids.size+1) w f hv mb vs es hMp hL t a c (Nat.lt_succ_self _) hsz hb hT
def rH:Ea:=⟨[],[(90,3,1)],[],[],[(56,true,4),(3,false,1)],[(130,[.map none,.int .i64 0,.int .i64 0])],[(130,[(0,1),(1,1),(2,1)])],[]⟩
theorem Hf:rH.Ok Tryz.prog:=⟨trivial,(And.intro KZ trivial),trivial,trivial,(And.intro AJ (And.intro CZ trivial)),(And.intro jU trivial),(And.intro kQ trivial),trivial⟩
theorem Fw(w:World)(f:Fq)(hv:Vl w f)(l:List Int)(a:Option Addr)(c:Nat)(n:Int)(hl:l.length≤1000000)(hI:BN w f l a c) :
  BF Tryz.prog 77 #[.slice a l.length c,.int .i64 n] w (BV (α:=Unit) (fun _=>.bool (l.contains n)) (fun _=>True) (fun _=>[]) w f):=by
 refine Dg (X:=X0 w f) (H:=[]) (R:=[]) (B:=[]) (Fs:=[fun w f=>BN w f l a c]) (f:=f) Tryz.func77 rfl rfl rfl (C7 hv ⟨hI,trivial⟩ ⟨BN.mono,trivial⟩)<|go Hf 9 [] (fun _=>B8 rfl rfl (eC YW rfl rfl) (fun w f hM=>Mf w f hM.vl l a c n hl hM.f0) (fun x=>trivial) ?_)
 rintro⟨⟩ -
 exact go Hf 5 [] (fun _=>AY (Dz rfl rfl) (fun w f hM=>⟨(),f,(by congr 1;cases hx:DJ l n with|none=>rw[Xc,hx,OF hx];rfl|some i=>rw[Xc,hx,(LZ hx).1];simp),trivial,hM.exm,trivial⟩))
theorem Xv(w:World)(f:Fq)(hv:Vl w f) :
  BF Tryz.prog 41 #[] w (O0 (α:=Nat×Nat) (fun x=>.pointer (some ⟨x.1,0,none⟩)) (fun x=>x.1≠x.2) (fun _=>False) (fun x=>Mu x.1 x.2) (fun x=>BL 130 x.1 x.2 [] 0 0) (fun _=>[]) w f):=by
 exact Dg (X:=X0 w f) (H:=[]) (R:=[]) (B:=[]) (Fs:=[]) (f:=f) Tryz.func41 rfl rfl rfl (C7 hv trivial trivial)<|go Hf 7 [] (fun _=>pF (K:=Fp) rfl rfl fun m1=>go Hf 6 [] (fun b1=>fun _=>mY 0 rfl rfl<|AY (Dz rfl rfl) (fun w f hM=>⟨(b1,m1),f,rfl,fF hM.res.2 hM.res.1.2,hM.exm,(fun b hb=>let ⟨h1,h2,h3⟩:=hM.mi b (hb.elim .inr (fun h=>.inl (.inr h)));h3.elim (fun h=>.inr ⟨h,h1,h2⟩) .inl),BL.new hM.res.2 hM.res.1.2,trivial⟩)))
theorem Wv(w:World)(f:Fq)(hv:Vl w f)(t:T1)(a:Option Addr)(c:Nat)(hsz:t.kids.size+1≤1000)(hb:t.bnd)(hT:Ah w f t.kids a c) :
  BF Tryz.prog 24 #[tV t a c] w (BV (α:=Unit) (fun _=>S (OS t)) (fun _=>True) (fun _=>[]) w f):=by
 have hvl:=GP t
 have hnd:(Aq t).Nodup:=Iz _ _ List.nodup_nil
 refine Dg (X:=X0 w f) (H:=[]) (R:=[]) (B:=[]) (Fs:=[fun w f=>Ah w f t.kids a c]) (f:=f) Tryz.func24 rfl rfl rfl (C7 hv ⟨hT,trivial⟩ ⟨Ah.mono,trivial⟩)<|go Hf 8 [] (fun b1=>fun _=>pF (K:=Fp) rfl rfl fun m1=>go Hf 7 [0] (y<|fun _=>B8 rfl rfl (eC Md rfl rfl) (fun w f hM=>GW w f hM.vl t a c oM hb hM.f0) (fun x=>⟨BN.mono,trivial⟩) ?_))
 rintro⟨va,vc⟩ -
 refine go Hf 5 [] (fun _=>?_)
 refine H9 (α:=Nat×List (Int×Value)) (fun x=>(Aq t).length-x.1) (fun x=>x.1≤(Aq t).length∧Ma ((Aq t).take x.1) x.2) (fun x=>(E5 1 (.pointer (some ⟨b1,0,none⟩)) 3 (.map (some m1)) 8 (.slice va (Aq t).length vc) 9 (.int .i64 ((Aq t).length:Int)) 10 (.int .i64 (x.1:Int)))) (fun x=>⟨fun _=>False,fun b=>False∨b=m1,fun w f=>True∧Ci Fp w m1 x.2,w,f⟩) (fun x=>[⟨b1,tC t a c,56,true⟩]) (fun x=>[]) (fun x=>[]) (fun x=>[fun w f=>BN w f (Aq t) va vc,fun w f=>Ah w f t.kids a c]) (0,[]) ⟨Nat.zero_le _,Ma.nil⟩ lE (fun w f hM=>hM) ?_
 rintro⟨i,es⟩ ⟨hi,hL⟩
 dsimp only at hi hL ⊢
 refine go Hf 6 [] (fun _=>AZ 11 rfl rfl (fun h1=>?_) (fun h1=>?_))
 refine go Hf 6 [] (fun _=>?_)
 have hil:i<(Aq t).length:=by have:=of_decide_eq_true h1;omega
 obtain⟨v0,hx⟩:∃v,(Aq t)[i]?=some v:=⟨_,List.getElem?_eq_getElem hil⟩
 have hst:=hL.snoc (Uu hnd hx)
 refine CB (α:=Nat×Nat) (fun x=>va=some ⟨x.1,x.2,none⟩) (fun x=>[⟨x.1,x.2+i*1,[.int .i64 v0]⟩]) (fun x=>[]) (fun w f hM=>let ⟨b,off,h1,h2⟩:=BN.get hM.f0 hx;⟨(b,off),h1,(oE h2),fun _ h=>by cases h⟩) (fun x=>Af.mem trivial) ?_
 rintro⟨b,off⟩ rfl
 refine go Hf 12 [100,0] (And.intro oM<|y2<|fun _=>B8 rfl rfl (eC kD rfl rfl) (fun w f hM=>QP w f hM.vl i oM) (fun x=>trivial) ?_)
 rintro⟨⟩ -
 exact ZG (K:=Fp) (a:=v0) (l:=es) (I':=fun w f=>True∧Ci Fp w m1 ((v0,S (DY i))::es)) rfl rfl rfl rfl YM O1 (.inr rfl) hL.1 hst.1 (fun w f h=>h.2) (fun w f w2 h hM hC hm=>⟨trivial,hm⟩) (fun _ _ _ _ h _ hb=>⟨trivial,h.2.heap (hb _ (.inr rfl))⟩)<|go Hf 7 [] (And.intro ⟨oM,oM⟩<|fun _=>Eb ((i+1,(v0,S (DY i))::es)) (show (Aq t).length-(i+1)<(Aq t).length-i by omega) ⟨by show i+1≤_;omega,by show Ma ((Aq t).take (i+1)) _;rw[D2 hx];have h9:=hst.2;rw[List.length_take,Nat.min_eq_left (Nat.le_of_lt hil)] at h9;exact h9⟩ lE (fun w f hM=>⟨_,hM.less sR sR nE (fun _ h=>h)⟩))
 refine go Hf 3 [] (fun _=>Hc<|go Hf 3 [] (fun _=>?_))
 rw[List.take_of_length_le (by have:=of_decide_eq_false h1;omega)] at hL
 refine go Hf 3 [0] (y<|fun _=>B8 rfl rfl (eC YF rfl rfl) (fun w f hM=>WV w f hM.vl m1 (Aq t) es hM.res.2 hL t a c oM hb hM.f1) (fun x=>trivial) ?_)
 rintro⟨⟩ -
 exact go Hf 4 [] (fun _=>AY (Dz rfl rfl) (fun w f hM=>⟨(),f,rfl,trivial,hM.exm,trivial⟩))
def P6:Ea:=⟨[(64,0,0)],[],[],[],[(25,true,2),(56,true,4)],[(47,[.int .i64 0,.int .i64 0,.int .i64 0]),(56,[.int .i64 0,.int .i64 0,.string ⟨#[]⟩,.slice none 0 0])],[(47,[(0,2),(2,1)])],[]⟩
theorem EY:P6.Ok Tryz.prog:=⟨(And.intro JT trivial),trivial,trivial,trivial,(And.intro CV (And.intro AJ trivial)),(And.intro cP (And.intro DD trivial)),(And.intro oG trivial),trivial⟩
theorem JO(w:World)(f:Fq)(hv:Vl w f)(ln co e:Int) :
  BQ Tryz.prog 47 #[.agg #[.int .i64 ln,.int .i64 co],.int .i64 e] w (fun _ _=>False) (PanE 47 (fun _=>False) (fun er=>er=(ln,co,e)) w f):=by
 exact NT (X:=X0 w f) (H:=[]) (R:=[]) (B:=[]) (Fs:=[]) (f:=f) Tryz.func47 rfl rfl rfl (C7 hv trivial trivial)<|go EY 9 [0] (fun b1=>y<|fun _=>Fh rfl rfl (fun w f hM=>BY rfl lZ)<|pM rfl (fun w=>BM rfl) (fun w f hM=>⟨rfl,(ln,co,e),f,rfl,rfl,hM.exm⟩))
theorem C0(w:World)(f:Fq)(hv:Vl w f)(b:Bool)(ln co:Int) :
  BQ Tryz.prog 16 #[.bool b,.agg #[.int .i64 ln,.int .i64 co]] w (BV (α:=Unit) (fun _=>.tuple #[]) (fun _=>b=true) (fun _=>[]) w f) (PanE 47 (fun _=>False) (fun er=>b=false∧er=(ln,co,11)) w f):=by
 refine NT (X:=X0 w f) (H:=[]) (R:=[]) (B:=[]) (Fs:=[]) (f:=f) Tryz.func16 rfl rfl rfl (C7 hv trivial trivial)<|go EY 11 [] (fun b1=>fun _=>AZ 5 rfl rfl (fun h1=>?_) (fun h1=>?_))
 replace h1:=FL h1
 exact go EY 3 [0] (y<|fun _=>MY rfl rfl (eC PG rfl rfl) (fun _ h=>h.elim) (fun w f hM=>JO w f hM.vl ln co 11) (fun er w2 f2 he hE=>by subst he;exact⟨rfl,_,f2,rfl,⟨h1,rfl⟩,hE⟩))
 replace h1:=Gn h1
 exact go EY 2 [] (fun _=>aG (fun w f hM=>DT rfl) (fun w f hM=>⟨(),f,rfl,h1,hM.exm,trivial⟩))
theorem XN(w:World)(f:Fq)(hv:Vl w f)(A:Ad)(hA:A.ok)(s:CS)(hC:Au 64 130 A s w f)(hf:∀b,BB A b→f b=0)(hw:DR s)(t u:T1)(a:Option Addr)(c:Nat)(a2:Option Addr)(c2:Nat)(hbt:t.bnd)(hbu:u.bnd)(hT:Ah w f t.kids a c)(hU:Ah w f u.kids a2 c2)(ln co:Int) :
  BQ Tryz.prog 18 #[.pointer (some ⟨A.cb,0,none⟩),tV t a c,tV u a2 c2,.agg #[.int .i64 ln,.int .i64 co]] w (Fl (α:=BJ) (fun _=>.tuple #[]) (fun x=>F2 s t u ln co=.ok {s with sol:=x}∧DR {s with sol:=x}) (BB A) (fun x=>Au 64 130 A {s with sol:=x}) (fun _=>[]) w f) (PanE 47 (BB A) (fun er=>F2 s t u ln co=.error er) w f):=by
 refine NT (X:=XC 64 130 A s w f) (H:=[]) (R:=[]) (B:=[]) (Fs:=[fun w f=>Ah w f t.kids a c,fun w f=>Ah w f u.kids a2 c2]) (f:=f) Tryz.func18 rfl rfl rfl (Lz hv hC hf ⟨hT,hU,trivial⟩ ⟨Ah.mono,Ah.mono,trivial⟩)<|go EY 8 [] (fun b1=>fun b2=>fun b3=>fun _=>Ml (fun w=>AQ w A.cb [.pointer (some ⟨A.sb,0,none⟩),.map (some A.km),.map (some A.dm),.map (some A.rm),.int .i64 s.vars] 64) (fun w f h _=>h.blk) [0,1,2] Ap (rd [0,1,2,3,4,5] (.br 6 (.rd 7 .fin) .fin)) rfl kR kR kR (fun _ _ _ _ _ h=>h)<|AA EY 3 [] (fun _=>HN rfl rfl rfl (fun w hK=>Al rfl HJ hK.2.2 rfl)<|AA EY 2 [2,1] (y<|y<|fun _=>Ag rfl ?_ Ai)))
 refine ZE fun pr=>Ov (α:=Int×BJ×Int) (val:=fun x=>.int .i64 x.1) (q:=fun x=>(∀b,Gz s.sol t u=.ok b→x.1=0∧x.2.1=b∧Ji b)∧∀e,Gz s.sol t u=.error e→x.1=e∧e≠0) (I':=fun x=>Au 64 130 A {s with sol:=x.2.1}) (F':=fun _=>[]) (XX:=fun _ _=>False) rfl rfl (eC fM rfl rfl) (fun w f hM=>((UC w f hM.vl A.sb A.mb s.sol s.fresh pr hM.res.2 ⟨(hM.mi _ (.inr (.inl rfl))).2.1,(hM.mi _ (.inr (.inr (.inl rfl)))).2.1⟩ hA.sm.1 hw.sol t u a c a2 c2 hbt hbu hM.f0 hM.f1).mono fun v w2 ⟨x,f2,h1,h2,h3,h4,h5⟩=>⟨x,f2,h1,h2,h3.mono Mu.c,hM.res.1.solved hA hM.vl (fun b hb=>(hM.mi b (Mu.c b hb)).2.1) h3 h4,h5⟩).retP) (fun _=>Au.stab) (fun _=>trivial) (fun _ _ _ _ _ h=>h.elim) ?_
 rintro⟨cd,s3,pr3⟩ ⟨hok,herr⟩
 refine go EY 1 [] (fun _=>Bh [0,1,2] (fun w f h _=>h.blk) rfl (fun _ h=>h)<|AA EY 1 [] (fun _=>B3<|go EY 7 [] (fun _=>AZ 17 rfl rfl (fun h1=>?_) (fun h1=>?_))))
 refine go EY 4 [0] (y<|fun _=>?_)
 obtain⟨er,her⟩:∃e,Gz s.sol t u=.error e:=by cases hx:Gz s.sol t u with|error e=>exact⟨e,rfl⟩|ok z=>have g9:=(hok z hx).1;rw[g9] at h1;cases h1
 obtain⟨rfl,-⟩:=herr er her
 exact MY rfl rfl (eC PG rfl rfl) (fun _ h=>h.elim) (fun w f hM=>JO w f hM.vl ln co cd) (fun er w2 f2 he hE=>by subst he;exact⟨rfl,_,f2,rfl,(by rw[F2,her]),hE⟩)
 refine go EY 2 [] (fun _=>?_)
 obtain⟨z,hz⟩:∃z,Gz s.sol t u=.ok z:=by cases hx:Gz s.sol t u with|ok z=>exact⟨z,rfl⟩|error e=>have g9:=herr e hx;have g8:cd=0:=(by simpa using h1);exact absurd (g9.1.symm.trans g8) g9.2
 obtain⟨-,rfl,hz3⟩:=hok z hz
 exact aG (fun w f hM=>DT rfl) (fun w f hM=>⟨s3,f,rfl,⟨(by rw[F2,hz]),{hw with sol:=hz3}⟩,hM.exm,hM.res,trivial⟩)
theorem Cz(w:World)(f:Fq)(hv:Vl w f)(A:Ad)(hA:A.ok)(s:CS)(hC:Au 64 130 A s w f)(hf:∀b,BB A b→f b=0)(hw:DR s)(t:T1)(a:Option Addr)(c:Nat)(hb:t.bnd)(hT:Ah w f t.kids a c)(ln co:Int) :
  BQ Tryz.prog 25 #[.pointer (some ⟨A.cb,0,none⟩),tV t a c,.agg #[.int .i64 ln,.int .i64 co]] w (Fl (α:=T1×Option Addr×Nat) (fun x=>tV x.1 x.2.1 x.2.2) (fun x=>FG s t ln co=.ok x.1∧x.1.bnd∧x.1.kids.size+1≤1000) (BB A) (fun _=>Au 64 130 A s) (fun x=>[fun w f=>Ah w f x.1.kids x.2.1 x.2.2]) w f) (PanE 47 (BB A) (fun er=>FG s t ln co=.error er) w f):=by
 refine NT (X:=XC 64 130 A s w f) (H:=[]) (R:=[]) (B:=[]) (Fs:=[fun w f=>Ah w f t.kids a c]) (f:=f) Tryz.func25 rfl rfl rfl (Lz hv hC hf ⟨hT,trivial⟩ ⟨Ah.mono,trivial⟩)<|go EY 8 [] (fun b1=>fun b2=>fun b3=>fun _=>Ml (fun w=>AQ w A.cb [.pointer (some ⟨A.sb,0,none⟩),.map (some A.km),.map (some A.dm),.map (some A.rm),.int .i64 s.vars] 64) (fun w f h _=>h.blk) [0,1,2] Ap (rd [0,1,2,3,4] (.br 5 (rd [6,7,8] (.br 9 (.br 10 (.rd 11 .fin) .fin) .fin)) (.br 9 (.br 5 (rd [6,7,8] (.br 10 (.rd 11 .fin) .fin)) .fin) .fin))) rfl kR kR kR (fun _ _ _ _ _ h=>h)<|AA EY 3 [] (fun _=>HN rfl rfl rfl (fun w hK=>Al rfl HJ hK.2.2 rfl)<|AA EY 1 [2] (y<|fun _=>Ag rfl ?_ ?_)))
 refine ZE fun pr=>B8 (α:=Option Addr×Nat) rfl rfl (eC PD rfl rfl) (fun w f hM=>Ka w f hM.vl A.sb A.mb s.sol s.fresh pr hM.res.2 hw.sol t a c hb hM.f0) (fun _=>⟨Ah.mono,trivial⟩) ?_
 rintro⟨a2,c2⟩ -
 refine go EY 1 [] (fun _=>Bh [0,1,2] (fun w f h _=>h.1.blk) rfl (fun _ h=>h)<|AA EY 3 [] (fun _=>Ag rfl ?_ Ai))
 refine go EY 2 [] (fun b4=>fun _=>Bh [1,2,3] (fun w f h _=>h.1.blk) rfl (fun _ h=>h)<|Ag rfl ?_ Ai)
 refine go EY 2 [0] (y<|fun _=>Bh [1,2,3] (fun w f h _=>h.1.blk) rfl (fun _ h=>h)<|AA EY 1 [] (fun _=>B3<|go EY 8 [] (fun _=>AZ 19 rfl rfl (fun h1=>?_) (fun h1=>?_))))
 refine go EY 4 [2] (y<|fun _=>?_)
 have hfn:CT s.sol t=none:=by cases hx:CT s.sol t with|none=>rfl|some z=>rw[hx] at h1;cases h1
 rw[hfn]
 exact MY rfl rfl (eC PG rfl rfl) (fun _ h=>h.elim) (fun w f hM=>JO w f hM.vl ln co 4) (fun er w2 f2 he hE=>by subst he;exact⟨rfl,_,f2,rfl,(by rw[FG,hfn]),hE⟩)
 refine go EY 10 [0,1] (y<|y<|fun _=>?_)
 obtain⟨z,hz⟩:∃z,CT s.sol t=some z:=by cases hx:CT s.sol t with|some z=>exact⟨z,rfl⟩|none=>rw[hx] at h1;cases h1
 exact AY (fun w f hM=>AI rfl (Ac rfl AJ hM.k1 rfl)) (fun w f hM=>⟨(z,a2,c2),f,(by rw[hz];rfl),⟨(by rw[FG,hz]),Kf hw.sol hb hz,I7 hz⟩,hM.exm,hM.res.1,⟨by have h9:=hM.f0;rw[hz] at h9;exact h9,trivial⟩⟩)
 refine Ag rfl ?_ Ai
 refine go EY 2 [] (fun b5=>fun _=>Bh [1,2,3] (fun w f h _=>h.blk) rfl (fun _ h=>h)<|Ag rfl ?_ Ai)
 refine ZE fun pr=>B8 (α:=Option Addr×Nat) rfl rfl (eC PD rfl rfl) (fun w f hM=>Ka w f hM.vl A.sb A.mb s.sol s.fresh pr hM.res.2 hw.sol t a c hb hM.f0) (fun _=>⟨Ah.mono,trivial⟩) ?_
 rintro⟨a2,c2⟩ -
 refine go EY 1 [] (fun _=>Bh [1,2,3] (fun w f h _=>h.1.blk) rfl (fun _ h=>h)<|AA EY 3 [] (fun _=>Ag rfl ?_ Ai))
 refine go EY 2 [0] (y<|fun _=>Bh [1,2,3] (fun w f h _=>h.1.blk) rfl (fun _ h=>h)<|AA EY 1 [] (fun _=>B3<|go EY 8 [] (fun _=>AZ 19 rfl rfl (fun h2=>?_) (fun h2=>?_))))
 refine go EY 4 [2] (y<|fun _=>?_)
 have hfn:CT s.sol t=none:=by cases hx:CT s.sol t with|none=>rfl|some z=>rw[hx] at h2;cases h2
 rw[hfn]
 exact MY rfl rfl (eC PG rfl rfl) (fun _ h=>h.elim) (fun w f hM=>JO w f hM.vl ln co 4) (fun er w2 f2 he hE=>by subst he;exact⟨rfl,_,f2,rfl,(by rw[FG,hfn]),hE⟩)
 refine go EY 10 [0,1] (y<|y<|fun _=>?_)
 obtain⟨z,hz⟩:∃z,CT s.sol t=some z:=by cases hx:CT s.sol t with|some z=>exact⟨z,rfl⟩|none=>rw[hx] at h2;cases h2
 exact AY (fun w f hM=>AI rfl (Ac rfl AJ hM.k1 rfl)) (fun w f hM=>⟨(z,a2,c2),f,(by rw[hz];rfl),⟨(by rw[FG,hz]),Kf hw.sol hb hz,I7 hz⟩,hM.exm,hM.res.1,⟨by have h9:=hM.f0;rw[hz] at h9;exact h9,trivial⟩⟩)
def GB:Ea:=⟨[(64,0,0)],[(90,3,1),(52,56,4)],[],[],[(59,false,1)],[(56,[.int .i64 0,.int .i64 0,.string ⟨#[]⟩,.slice none 0 0])],[],[]⟩
theorem PB:GB.Ok Tryz.prog:=⟨(And.intro JT trivial),(And.intro KZ (And.intro DI trivial)),trivial,trivial,(And.intro HJ trivial),(And.intro DD trivial),trivial,trivial⟩
theorem LI(w:World)(f:Fq)(hv:Vl w f)(A:Ad)(hA:A.ok)(s:CS)(hC:Au 64 130 A s w f)(hf:∀b,BB A b→f b=0)(hw:DR s)(l:List Int)(la:Option Addr)(lc:Nat)(hl:l.length≤200000)(hfb:s.fresh+l.length≤900000000000) :
  BF Tryz.prog 101 #[.pointer (some ⟨A.cb,0,none⟩),.slice la l.length lc] w (Fl (α:=Option Addr×Nat) (fun x=>.slice x.1 (B1 l s).1.len x.2) (fun _=>True) (BB A) (fun _=>Au 64 130 A (B1 l s).2) (fun x=>[fun w f=>Ah w f (B1 l s).1 x.1 x.2]) w f):=by
 have hfr0:=hw.fr
 refine Dg (X:=XC 64 130 A s w f) (H:=[]) (R:=[]) (B:=[]) (Fs:=[]) (f:=f) Tryz.func101 rfl rfl rfl (Lz hv hC hf trivial trivial)<|go PB 19 [] (fun _=>QJ 56 4 ?_)
 refine H9 (α:=Nat×List Value×Option Addr×Nat) (fun x=>l.length-x.1) (fun x=>x.1≤l.length) (fun x=>(E4 0 (.pointer (some ⟨A.cb,0,none⟩)) 5 (.slice x.2.2.1 x.1 x.2.2.2) 7 (.int .i64 (l.length:Int)) 8 (.int .i64 (x.1:Int)))) (fun x=>⟨BB A,BB A,Au 64 130 A {s with fresh:=s.fresh+(x.1:Nat)},w,f⟩) (fun x=>[]) (fun x=>[⟨56,4,x.2.2.1,x.2.2.2,x.1,x.2.1⟩]) (fun x=>[]) (fun x=>[fun w f=>Bl w f (EA s.fresh x.1) x.2.1]) (0,[],none,0) (Nat.zero_le _) lE (fun w f hM=>(by have hM2:=hM.more (B':=[]) (F':=[fun w f=>Bl w f (EA s.fresh 0) []]) nE (A1.mem ⟨rfl,trivial⟩) (Af.mem ⟨Bl.mono,trivial⟩);rw[show s={s with fresh:=s.fresh+(0:Nat)} by simp] at hM2;exact hM2)) ?_
 rintro⟨i,xs,ra,rc⟩ hi
 dsimp only at hi ⊢
 refine go PB 6 [] (fun _=>AZ 9 rfl rfl (fun h1=>?_) (fun h1=>?_))
 refine go PB 5 [] (fun _=>?_)
 have hil:i<l.length:=by have:=of_decide_eq_true h1;omega
 refine go PB 5 [] (fun _=>Fh rfl rfl (fun w f hM=>Al rfl HJ hM.res.blk rfl)<|ZE fun pr=>Ov (α:=Unit) (val:=fun _=>tV (.var (({s with fresh:=s.fresh+(i:Nat)}:CS).fresh+1)) none 0) (q:=fun _=>True) (I':=fun _=>Au 64 130 A { ({s with fresh:=s.fresh+(i:Nat)}:CS) with fresh:=({s with fresh:=s.fresh+(i:Nat)}:CS).fresh+1}) (F':=fun _=>[]) (XX:=fun _ _=>False) rfl rfl (eC K0 rfl rfl) (fun w f hM=>((Ng w f hM.vl A.sb A.mb _ _ pr hM.res.2 ⟨(hM.mi _ (.inr (.inl rfl))).2.1,(hM.mi _ (.inr (.inr (.inl rfl)))).2.1⟩ hA.sm.1 (by constructor <;> (simp only;omega))).mono fun v w2 ⟨x,f2,h1,h2,h3,h4,h5⟩=>⟨x,f2,h1,h2,h3.mono Mu.c,hM.res.1.solved hA hM.vl (fun b hb=>(hM.mi b (Mu.c b hb)).2.1) h3 h4,h5⟩).retP) (fun _=>Au.stab) (fun _=>trivial) (fun _ _ _ _ _ h=>h.elim) ?_)
 rintro⟨⟩ -
 exact go PB 1 [] (fun b1=>fun _=>DH 0 0 rfl rfl Dq rfl rfl rfl rfl rfl rfl rfl rfl (fun _ _=>rfl) oM oM fun ra2 rc2=>go PB 8 [] (And.intro ⟨oM,oM⟩<|fun _=>Eb ((i+1,xs++tC (.var (s.fresh+i+1)) none 0,ra2,rc2)) (show l.length-(i+1)<l.length-i by omega) (show i+1≤l.length by omega) lE (fun w f hM=>⟨_,by have hM2:=(hM.more (B':=[]) (F':=[fun w f=>Bl w f (EA s.fresh (i+1)) (xs++tC (.var (s.fresh+i+1)) none 0)]) nE (A1.mem ⟨by rw[Mp];exact Bl.snoc (Ah.nil _ _ _ _) hM.f0,trivial⟩) (Af.mem ⟨Bl.mono,trivial⟩)).less (H':=[]) (List.nil_sublist _) sR (B':=[]) nE (F':=[fun w f=>Bl w f (EA s.fresh (i+1)) (xs++tC (.var (s.fresh+i+1)) none 0)]) (mR [0]);rw[show s.fresh+(i:Int)+1=s.fresh+((i+1:Nat):Int) by omega] at hM2 ⊢;exact hM2⟩)))
 refine go PB 3 [] (fun _=>Hc<|go PB 3 [] (fun _=>?_))
 obtain rfl:i=l.length:=by have:=of_decide_eq_false h1;omega
 refine go PB 6 [] (fun _=>?_)
 have hnl:(B1 l s).1.len=l.length:=by rw[BR];exact FK _ _
 rcases Nat.eq_zero_or_pos l.length with h0|h0
 · exact AY (Dz rfl rfl) (fun w f hM=>⟨(ra,rc),f,(by rw[hnl]),trivial,hM.exm,(by rw[BR];exact hM.res),⟨by rw[BR];show Ah _ _ (EA s.fresh l.length) _ _;rw[h0];exact Ah.nil _ _ _ _,trivial⟩⟩)
 · exact AY (Dz rfl rfl) (fun w f hM=>let ⟨f2,hM2,hF⟩:=MV hM hM.f0 (by rw[FK];exact h0);⟨(ra,rc),f2,(by rw[hnl]),trivial,hM2.exm,(by rw[BR];exact hM2.res),⟨by rw[BR];exact hF,trivial⟩⟩)
def vD:Ea:=⟨[(64,1,1),(54,2,3),(54,1,1),(92,0,0),(54,4,5),(92,2,5),(92,1,1)],[(52,56,4),(23,54,6)],[],[],[(9,false,1),(92,true,6),(25,true,2),(52,false,1),(23,false,1),(90,false,1),(56,true,4)],[(56,[.int .i64 0,.int .i64 0,.string ⟨#[]⟩,.slice none 0 0]),(92,[.slice none 0 0,.int .i64 0,.int .i64 0,.string ⟨#[]⟩,.slice none 0 0,.slice none 0 0])],[],[]⟩
theorem Gd:vD.Ok Tryz.prog:=⟨(And.intro PH (And.intro GH (And.intro GJ (And.intro Q5 (And.intro Ga (And.intro aS (And.intro bY trivial))))))),(And.intro DI (And.intro EI trivial)),trivial,trivial,(And.intro Hx (And.intro XH (And.intro CV (And.intro H0 (And.intro EM (And.intro Kz (And.intro AJ trivial))))))),(And.intro DD (And.intro XV trivial)),trivial,trivial⟩
theorem OC(w:World)(f:Fq)(hv:Vl w f)(A:Ad)(hA:A.ok)(s:CS)(hC:Au 64 130 A s w f)(hf:∀b,BB A b→f b=0)(hw:DR s)(op ln co nm:Int)(tx:List UInt8)(kids:Nd)(na:Option Addr)(nc:Nat)(hfb:s.fresh≤800000000000) :
  BQ Tryz.prog 74 #[.pointer (some ⟨A.cb,0,none⟩),.agg #[.int .i64 op,.int .i64 ln,.int .i64 co,S tx,.int .i64 nm,.slice na kids.len nc]] w (Fl (α:=(Ty×Option Addr×Nat)×(T1×Option Addr×Nat)×CS) (fun x=>.tuple #[.slice x.1.2.1 x.1.1.len x.1.2.2,tV x.2.1.1 x.2.1.2.1 x.2.1.2.2]) (fun x=>Jc s tx kids.len ln co=.ok (x.1.1,x.2.1.1,x.2.2)∧x.1.1.len=kids.len∧x.1.1.bnd∧x.2.1.1.bnd∧DR x.2.2∧x.2.2.fresh≤s.fresh+200000) (BB A) (fun x=>Au 64 130 A x.2.2) (fun x=>[fun w f=>Ah w f x.1.1 x.1.2.1 x.1.2.2,fun w f=>Ah w f x.2.1.1.kids x.2.1.2.1 x.2.1.2.2]) w f) (PanE 47 (BB A) (fun er=>Jc s tx kids.len ln co=.error er) w f):=by
 refine NT (X:=XC 64 130 A s w f) (H:=[]) (R:=[]) (B:=[]) (Fs:=[]) (f:=f) Tryz.func74 rfl rfl rfl (Lz hv hC hf trivial trivial)<|go Gd 8 [] (fun b1=>fun b2=>fun _=>sY fun es=>Ky (fun w f hM=>Cd.dis hM.res.2.2 hw.dc) fun hdis=>?_)
 cases hl:BZ s.cons tx with
 |none =>
  refine Ky (fun w f hM=>(Cd.look hM.res.2.2).1 hl) fun hlk=>Ml (fun w=>AQ w A.cb [.pointer (some ⟨A.sb,0,none⟩),.map (some A.km),.map (some A.dm),.map (some A.rm),.int .i64 s.vars] 64∧Ci CE w A.km es) (fun w f h _=>⟨h.1.blk,h.2.1⟩) [0,1] Ap (rd [0,1,2,3,4,5,6,7,8,9] (.br 10 (.br 11 (.rd 12 .fin) .fin) .fin)) rfl kR kR kR (fun _ _ _ _ _ h=>h)<|AA Gd 3 [] (fun _=>HN rfl rfl rfl (fun w hK=>Al rfl O7 hK.2.2.1 rfl)<|AA Gd 2 [1] (y<|fun _=>HN rfl rfl rfl (fun w hK=>KE (K:=CE) (a:=tx) rfl rfl Pe H7 UM hK.2.2.2 hdis hlk)<|AA Gd 3 [] (fun _=>Ag rfl ?_ Ai)))
  refine go Gd 2 [] (fun b3=>fun _=>Bh [1,2] (fun w f h _=>⟨h.1.blk,h.2.1⟩) rfl (fun _ h=>h)<|Ag rfl ?_ Ai)
  exact go Gd 2 [0] (y<|fun _=>Bh [1,2] (fun w f h _=>⟨h.1.blk,h.2.1⟩) rfl (fun _ h=>h)<|AA Gd 1 [] (fun _=>B3<|go Gd 15 [2] (y<|fun _=>MY rfl rfl (eC ES rfl rfl) (fun _ h=>h.elim) (fun w f hM=>(C0 w f hM.vl false ln co).mono (fun _ _ ⟨_,_,_,h,_⟩=>by cases h) fun _ _ h=>h) (fun er w2 f2 he hE=>⟨rfl,er,f2,rfl,(by rw[Jc,hl,he.2]),hE⟩))))
 |some m =>
  refine CB (α:=Option Addr×Nat×Option Addr×Nat×Option Addr×Nat) (fun x=>FC es tx=some (.agg (ZF m x.1 x.2.1 x.2.2.1 x.2.2.2.1 x.2.2.2.2.1 x.2.2.2.2.2).toArray)) (fun x=>[]) (fun x=>[fun w f=>Ah w f m.args x.1 x.2.1,fun w f=>Ah w f m.out.kids x.2.2.1 x.2.2.2.1,fun w f=>BN w f m.vars x.2.2.2.2.1 x.2.2.2.2.2]) (fun w f hM=>let ⟨aa,ac,oa,oc,va,vc,h1,h2,h3,h4⟩:=(Cd.look hM.res.2.2).2 m hl;⟨(aa,ac,oa,oc,va,vc),h1,nE,A1.mem ⟨h2,h3,h4,trivial⟩⟩) (fun x=>Af.mem ⟨Ah.mono,Ah.mono,BN.mono,trivial⟩) ?_
  rintro⟨aa,ac,oa,oc,va,vc⟩ hlk
  obtain⟨hm1,hm2,hm3,hm4⟩:=hw.cons tx m hl
  refine Ml (fun w=>AQ w A.cb [.pointer (some ⟨A.sb,0,none⟩),.map (some A.km),.map (some A.dm),.map (some A.rm),.int .i64 s.vars] 64∧Ci CE w A.km es) (fun w f h _=>⟨h.1.blk,h.2.1⟩) [0,1] Ap (rd [0,1,2,3,4,5,6,7,8,9] (.br 10 (.br 11 (.rd 12 .fin) .fin) .fin)) rfl kR kR kR (fun _ _ _ _ _ h=>h)<|AA Gd 3 [] (fun _=>HN rfl rfl rfl (fun w hK=>Al rfl O7 hK.2.2.1 rfl)<|AA Gd 2 [1] (y<|fun _=>HN rfl rfl rfl (fun w hK=>KJ (K:=CE) (a:=tx) rfl rfl Pe H7 UM hK.2.2.2 hdis hlk)<|AA Gd 3 [] (fun _=>Ag rfl ?_ Ai)))
  refine go Gd 2 [] (fun b4=>fun _=>Bh [1,2] (fun w f h _=>⟨h.1.blk,h.2.1⟩) rfl (fun _ h=>h)<|Ag rfl ?_ Ai)
  refine go Gd 2 [0] (y<|fun _=>Bh [1,2] (fun w f h _=>⟨h.1.blk,h.2.1⟩) rfl (fun _ h=>h)<|AA Gd 1 [] (fun _=>B3<|go Gd 15 [0,2,2] (y<|y<|y<|fun _=>DZ (α:=Unit) (val:=fun _=>.tuple #[]) (q:=fun _=>((m.args.len:Int)==kids.len)=true) (I':=fun _=>Au 64 130 A s) (F':=fun _=>[]) rfl rfl (eC ES rfl rfl) (fun _ h=>h.elim) (fun w f hM=>(C0 w f hM.vl ((m.args.len:Int)==kids.len) ln co).mono (fun _ _ ⟨x,f2,h1,h2,h3,h4⟩=>⟨x,f2,h1,h2,h3.mono (fun _ h=>h.elim),(hM.call0 h3).res.1,h4⟩) fun _ _ h=>h) (fun _=>Au.stab) (fun _=>trivial) (fun er w2 f2 he hE=>⟨rfl,er,f2,rfl,(by rw[Jc,hl];simp only;rw[if_neg (by rw[he.1];decide),he.2]),hE⟩) ?_)))
  rintro⟨⟩ hle
  have hlen:m.args.len=kids.len:=by have:=beq_iff_eq.1 hle;omega
  refine go Gd 7 [0] (y<|fun _=>Ov (XX:=fun _ _=>False) rfl rfl (eC PM rfl rfl) (fun w f hM=>(LI w f hM.vl A hA s hM.res hM.mz hw m.vars va vc hm4 oM).retP) (fun _=>Au.stab) (fun _=>⟨Ah.mono,trivial⟩) (fun _ _ _ _ _ h=>h.elim) ?_)
  rintro⟨na2,nc2⟩ -
  have hnl:(B1 m.vars s).1.len=m.vars.length:=by rw[BR];exact FK _ _
  have hnb:(B1 m.vars s).1.bnd:=by rw[BR];exact IZ _ _
  refine go Gd 18 [0] (y<|fun _=>QJ 56 4 ?_)
  refine H9 (α:=Nat×Ty×Ty×List Value×Option Addr×Nat) (fun x=>x.2.1.len) (fun x=>x.1+x.2.1.len=m.args.len∧x.2.2.1.len=x.1∧DQ m.vars (B1 m.vars s).1 m.args=x.2.2.1.app (DQ m.vars (B1 m.vars s).1 x.2.1)∧x.2.1.bnd) (fun x=>(E9 0 (.pointer (some ⟨A.cb,0,none⟩)) 3 (.pointer (some ⟨b1,0,none⟩)) 5 (.pointer (some ⟨b2,0,none⟩)) 6 (.pointer (some ⟨b4,0,none⟩)) 8 (.slice na2 (B1 m.vars s).1.len nc2) 9 (.slice x.2.2.2.2.1 x.1 x.2.2.2.2.2) 40 (.slice aa m.args.len ac) 41 (.int .i64 (m.args.len:Int)) 42 (.int .i64 (x.1:Int)))) (fun x=>⟨BB A,BB A,Au 64 130 A (B1 m.vars s).2,w,f⟩) (fun x=>[⟨b4,ZF m aa ac oa oc va vc,92,true⟩,⟨b2,[.int .i64 0,.int .i64 0,.string ⟨#[]⟩,.slice none 0 0],56,true⟩,⟨b1,[.int .i64 op,.int .i64 ln,.int .i64 co,S tx,.int .i64 nm,.slice na kids.len nc],54,true⟩]) (fun x=>[⟨56,4,x.2.2.2.2.1,x.2.2.2.2.2,x.1,x.2.2.2.1⟩]) (fun x=>[]) (fun x=>[fun w f=>AW w f aa x.1 x.2.1,fun w f=>Bl w f x.2.2.1 x.2.2.2.1,fun w f=>BN w f m.vars va vc,fun w f=>Ah w f (B1 m.vars s).1 na2 nc2,fun w f=>Ah w f m.out.kids oa oc]) (0,m.args,.nil,[],none,0) ⟨by simp,rfl,rfl,hm2⟩ lE (fun w f hM=>hM.more (B':=[]) (F':=[fun w f=>AW w f aa 0 m.args,fun w f=>Bl w f .nil []]) nE (A1.mem ⟨Ah.at hM.f1,rfl,trivial⟩) (Af.mem ⟨AW.mono,Bl.mono,trivial⟩) |>.less sR sR nE (mR [0,1,5,2,4])) ?_
  rintro⟨i,r,dn,xs,ra,rc⟩ ⟨hi,hdl,hk,hrb⟩
  dsimp only at hi hdl hk hrb ⊢
  refine go Gd 6 [] (fun _=>AZ 43 rfl rfl (fun h1=>?_) (fun h1=>?_))
  refine go Gd 6 [] (fun _=>?_)
  have hil:i<m.args.len:=by have:=of_decide_eq_true h1;omega
  obtain⟨t2,r,rfl⟩:=Ty.cases1 r oM
  rw[T1.len_cons] at hi
  refine CB (α:=Nat×Nat×Option Addr×Nat) (fun x=>aa=some ⟨x.1,x.2.1,none⟩) (fun x=>[⟨x.1,x.2.1+i*4,tC t2 x.2.2.1 x.2.2.2⟩]) (fun x=>[fun w f=>Ah w f t2.kids x.2.2.1 x.2.2.2,fun w f=>AW w f aa (i+1) r]) (fun w f hM=>let ⟨b,off,ka,kc,h1,h2,h3,h4⟩:=AW.head hM.f0;⟨(b,off,ka,kc),h1,(oE h2),A1.mem ⟨h3,h4,trivial⟩⟩) (fun x=>Af.mem ⟨Ah.mono,AW.mono,trivial⟩) ?_
  rintro⟨eb,eo,ka,kc⟩ rfl
  refine go Gd 13 [100,0,0,0,1] (And.intro oM<|y2<|fun b5=>y<|y<|y<|fun _=>B8 rfl rfl (eC D9 rfl rfl) (fun w f hM=>BI w f hM.vl m.vars va vc (B1 m.vars s).1 na2 nc2 oM oM hnb hM.f4 hM.f5 t2 ka kc (T1.bnd_cons.1 hrb).1 hM.f0) (fun x=>⟨Ah.mono,trivial⟩) ?_)
  rintro⟨a2,c2⟩ -
  exact go Gd 1 [] (fun b6=>fun _=>DH 0 0 rfl rfl Dq rfl rfl rfl rfl rfl rfl rfl rfl (fun _ _=>rfl) oM oM fun ra2 rc2=>go Gd 8 [] (And.intro ⟨oM,oM⟩<|fun _=>Eb ((i+1,r,dn.snoc (C9 t2 m.vars (B1 m.vars s).1),xs++tC (C9 t2 m.vars (B1 m.vars s).1) a2 c2,ra2,rc2)) (show r.len<(t2.cons r).len by rw[T1.len_cons];omega) ⟨show i+1+r.len=_ by omega,show (dn.snoc _).len=i+1 by rw[Ty.len_snoc,hdl],show DQ m.vars (B1 m.vars s).1 m.args=(dn.snoc _).app (DQ m.vars (B1 m.vars s).1 r) by rw[hk,Pa,Ty.snoc_app],(T1.bnd_cons.1 hrb).2⟩ lE (fun w f hM=>⟨_,(hM.more (B':=[]) (F':=[fun w f=>Bl w f (dn.snoc (C9 t2 m.vars (B1 m.vars s).1)) (xs++tC (C9 t2 m.vars (B1 m.vars s).1) a2 c2)]) nE (A1.mem ⟨Bl.snoc hM.f0 hM.f4,trivial⟩) (Af.mem ⟨Bl.mono,trivial⟩)).less (.cons _ (.cons _ sR)) sR nE (mR [3,0,6,7,8])⟩)))
  refine go Gd 3 [] (fun _=>Hc<|go Gd 3 [] (fun _=>?_))
  obtain rfl:r=.nil:=Ty.len0 (by have:=of_decide_eq_false h1;omega)
  rw[show DQ m.vars (B1 m.vars s).1 .nil=.nil from rfl,Ty.app_nil] at hk
  refine go Gd 7 [0,0] (y<|y<|fun _=>B8 rfl rfl (eC D9 rfl rfl) (fun w f hM=>BI w f hM.vl m.vars va vc (B1 m.vars s).1 na2 nc2 oM oM hnb hM.f2 hM.f3 m.out oa oc hm3 hM.f4) (fun x=>⟨Ah.mono,trivial⟩) ?_)
  rintro⟨a3,c3⟩ -
  refine go Gd 5 [1] (y<|fun _=>?_)
  have hmk:Jc s tx kids.len ln co=.ok (dn,C9 m.out m.vars (B1 m.vars s).1,(B1 m.vars s).2):=by rw[Jc,hl];simp only;rw[if_pos hle,hk]
  have hdb:dn.bnd:=by rw[← hk];exact (Ia hnb _ hm2).1
  have hdk:dn.len=kids.len:=by have:i+0=m.args.len:=hi;omega
  rcases Nat.eq_zero_or_pos dn.len with h0|h0
  · exact AY (fun w f hM=>Cu rfl (Aj rfl) (Ac rfl AJ hM.k1 rfl)) (fun w f hM=>⟨((dn,ra,rc),(C9 m.out m.vars (B1 m.vars s).1,a3,c3),(B1 m.vars s).2),f,(by dsimp only;rw[hdl]),⟨hmk,hdk,hdb,JF hnb hm3,(by rw[BR];exact hw.fresh (by have:=hw.fr;omega)),(by rw[BR];show s.fresh+_≤_;omega)⟩,hM.exm,hM.res,⟨by obtain rfl:=Ty.len0 h0;exact Ah.nil _ _ _ _,hM.f0,trivial⟩⟩)
  · exact AY (fun w f hM=>Cu rfl (Aj rfl) (Ac rfl AJ hM.k1 rfl)) (fun w f hM=>let ⟨f2,hM2,hF⟩:=MV hM hM.f2 h0;⟨((dn,ra,rc),(C9 m.out m.vars (B1 m.vars s).1,a3,c3),(B1 m.vars s).2),f2,(by dsimp only;rw[hdl]),⟨hmk,hdk,hdb,JF hnb hm3,(by rw[BR];exact hw.fresh (by have:=hw.fr;omega)),(by rw[BR];show s.fresh+_≤_;omega)⟩,hM2.exm,hM2.res,⟨hF,hM2.fact (i:=0) rfl,trivial⟩⟩)
def ZH:Ea:=⟨[(54,1,1),(102,0,0),(54,2,3),(102,2,6),(102,1,1),(100,0,0),(100,1,4)],[(90,3,1)],[],[],[(25,true,2),(9,false,1),(49,false,1),(56,true,4),(3,false,1),(90,false,1)],[(56,[.int .i64 0,.int .i64 0,.string ⟨#[]⟩,.slice none 0 0]),(3,[.int .i64 0])],[],[(49,102)]⟩
theorem CH:ZH.Ok Tryz.prog:=⟨(And.intro GJ (And.intro Ze (And.intro GH (And.intro S2 (And.intro RC (And.intro NN (And.intro NF trivial))))))),(And.intro KZ trivial),trivial,trivial,(And.intro CV (And.intro Hx (And.intro eA (And.intro AJ (And.intro CZ (And.intro Kz trivial)))))),(And.intro DD (And.intro W1 trivial)),trivial,(And.intro dV trivial)⟩
theorem WM(w:World)(f:Fq)(hv:Vl w f)(A:Ad)(hA:A.ok)(s:CS)(hC:Au 64 130 A s w f)(hf:∀b,BB A b→f b=0)(hw:DR s)(op ln co nm:Int)(tx:List UInt8)(kids:Nd)(na:Option Addr)(nc:Nat)(e:Bg)(ea:Option Addr)(heB:Gg e)(hE:AN w f e ea)(hfb:s.fresh≤800000000000) :
  BQ Tryz.prog 73 #[.pointer (some ⟨A.cb,0,none⟩),.agg #[.int .i64 op,.int .i64 ln,.int .i64 co,S tx,.int .i64 nm,.slice na kids.len nc],.pointer ea] w (Fl (α:=(T1×Option Addr×Nat)×CS) (fun x=>tV x.1.1 x.1.2.1 x.1.2.2) (fun x=>HC s e tx ln co=.ok (x.1.1,x.2)∧x.1.1.bnd∧DR x.2∧x.2.fresh≤s.fresh+200000) (BB A) (fun x=>Au 64 130 A x.2) (fun x=>[fun w f=>Ah w f x.1.1.kids x.1.2.1 x.1.2.2]) w f) (PanE 47 (BB A) (fun er=>HC s e tx ln co=.error er) w f):=by
 refine NT (X:=XC 64 130 A s w f) (H:=[]) (R:=[]) (B:=[]) (Fs:=[fun w f=>AN w f e ea]) (f:=f) Tryz.func73 rfl rfl rfl (Lz hv hC hf ⟨hE,trivial⟩ ⟨AN.mono,trivial⟩)<|go CH 8 [] (fun b1=>fun b2=>fun _=>?_)
 refine H9 (α:=Bg×Option Addr) (fun x=>x.1.length) (fun x=>Nw e tx=Nw x.1 tx∧Gg x.1) (fun x=>(E4 0 (.pointer (some ⟨A.cb,0,none⟩)) 2 (.pointer x.2) 4 (.pointer (some ⟨b1,0,none⟩)) 6 (.pointer (some ⟨b2,0,none⟩)))) (fun x=>⟨BB A,BB A,Au 64 130 A s,w,f⟩) (fun x=>[⟨b2,[.int .i64 0,.int .i64 0,.string ⟨#[]⟩,.slice none 0 0],56,true⟩,⟨b1,[.int .i64 op,.int .i64 ln,.int .i64 co,S tx,.int .i64 nm,.slice na kids.len nc],54,true⟩]) (fun x=>[]) (fun x=>[]) (fun x=>[fun w f=>AN w f x.1 x.2]) (e,ea) ⟨rfl,heB⟩ lE (fun w f hM=>hM) ?_
 rintro⟨e2,ea⟩ ⟨hfi,heb⟩
 dsimp only at hfi heb ⊢
 refine go CH 2 [] (fun _=>?_)
 cases e2 with
 |nil =>
  refine Ky (fun w f hM=>(hM.f0:ea=none)) fun hea=>?_
  subst hea
  exact Ml (fun w=>AQ w A.cb [.pointer (some ⟨A.sb,0,none⟩),.map (some A.km),.map (some A.dm),.map (some A.rm),.int .i64 s.vars] 64) (fun w f h _=>h.blk) [0,1] Ap (rd [0,1,2,3,4,5,6,7,8,9,10] .fin) rfl kR kR kR (fun _ _ _ _ _ h=>h)<|AA CH 11 [] (fun _=>B3<|go CH 4 [] (fun _=>Hc<|go CH 8 [1] (y<|fun _=>MY rfl rfl (eC ES rfl rfl) (fun _ h=>h.elim) (fun w f hM=>(C0 w f hM.vl false ln co).mono (fun _ _ ⟨_,_,_,h,_⟩=>by cases h) fun _ _ h=>h) (fun er w2 f2 he hE=>⟨rfl,er,f2,rfl,(by rw[HC,hfi,he.2];rfl),hE⟩))))
 |cons b e3 =>
  refine CB (α:=Nat×Option Addr×Nat×Option Addr×Nat×Option Addr) (fun x=>ea=some ⟨x.1,0,none⟩) (fun x=>[⟨x.1,0,S b.name::(tC b.t x.2.1 x.2.2.1++[.slice x.2.2.2.1 b.all.length x.2.2.2.2.1,.pointer x.2.2.2.2.2])⟩]) (fun x=>[fun w f=>Ah w f b.t.kids x.2.1 x.2.2.1,fun w f=>BN w f b.all x.2.2.2.1 x.2.2.2.2.1,fun w f=>AN w f e3 x.2.2.2.2.2]) (fun w f hM=>let ⟨k,ta,tc,va,vc,ra,h1,h2,h3,h4,h5⟩:=hM.f0;⟨(k,ta,tc,va,vc,ra),h1,(oE h2),A1.mem ⟨h3,h4,h5,trivial⟩⟩) (fun x=>Af.mem ⟨Ah.mono,BN.mono,AN.mono,trivial⟩) ?_
  rintro⟨ek,eta,etc,eva,evc,era⟩ rfl
  refine Ml (fun w=>AQ w A.cb [.pointer (some ⟨A.sb,0,none⟩),.map (some A.km),.map (some A.dm),.map (some A.rm),.int .i64 s.vars] 64) (fun w f h _=>h.blk) [0,1] Ap (rd [0,1,2,3,4,5,6,7,8,9,10] .fin) rfl kR kR kR (fun _ _ _ _ _ h=>h)<|AA CH 11 [100,0,1] (y2<|y<|fun _=>B3<|go CH 1 [] (fun _=>AZ 21 rfl rfl (fun h1=>?_) (fun h1=>?_)))
  exact go CH 12 [100,6] (y2<|fun _=>Eb ((e3,era)) (show e3.length<(b::e3).length from Nat.lt_succ_self _) ⟨hfi.trans (by show (if b.name==tx then some b else Nw e3 tx)=_;rw[if_neg (by have h9:(!(b.name==tx))=true:=h1;intro h8;rw[h8] at h9;cases h9)]),fun b2 hb2=>heb b2 (.tail _ hb2)⟩ lE (fun w f hM=>⟨_,hM.less sR sR nE (mR [2])⟩))
  refine go CH 3 [] (fun _=>Hc<|go CH 8 [1] (y<|fun _=>DZ (α:=Unit) (val:=fun _=>.tuple #[]) (q:=fun _=>True) (I':=fun _=>Au 64 130 A s) (F':=fun _=>[]) (pe:=fun er=>False) (M:=fun _=>False) (T:=47) rfl rfl (eC ES rfl rfl) (fun _ h=>h.elim) (fun w f hM=>(C0 w f hM.vl true ln co).mono (fun _ _ ⟨x,f2,h1,h2,h3,h4⟩=>⟨x,f2,h1,trivial,h3.mono (fun _ h=>h.elim),(hM.call0 h3).res,h4⟩) fun _ _ ⟨_,_,_,h,_⟩=>by cases h.1) (fun _=>Au.stab) (fun _=>trivial) (fun er w2 f2 he hE=>he.elim) ?_))
  rintro⟨⟩ -
  have hfb2:Nw e tx=some b:=hfi.trans (by show (if b.name==tx then some b else Nw e3 tx)=_;rw[if_pos (by have h9:(!(b.name==tx))=false:=h1;cases h8:(b.name==tx) with|true=>rfl|false=>rw[h8] at h9;cases h9)])
  obtain⟨hbb,hba⟩:=heb b (.head _)
  refine go CH 3 [] (fun _=>Ml (fun w=>AQ w A.cb [.pointer (some ⟨A.sb,0,none⟩),.map (some A.km),.map (some A.dm),.map (some A.rm),.int .i64 s.vars] 64) (fun w f h _=>h.blk) [0,1] Ap (rd [0,1,2,3,4,5,6,7] (.br 8 (.br 9 (.br 10 .fin .fin) .fin) (.br 9 (.br 8 (.br 10 .fin .fin) .fin) .fin))) rfl kR kR kR (fun _ _ _ _ _ h=>h)<|AA CH 8 [100,1,1] (y2<|y<|fun _=>Ag rfl ?_ ?_))
  refine DZ rfl rfl (eC FQ rfl rfl) (fun _ h=>h) (fun w f hM=>Cz w f hM.vl A hA s hM.res hM.mz hw b.t eta etc hbb hM.f0 ln co) (fun _=>Au.stab) (fun _=>⟨Ah.mono,trivial⟩) (fun er w2 f2 he hE=>⟨rfl,er,f2,rfl,(by rw[HC,hfb2];simp only;rw[he]),hE⟩) ?_
  rintro⟨tf,fa,fc⟩ ⟨hfl,hfbd,hfsz⟩
  dsimp only at hfl hfbd hfsz ⊢
  refine go CH 1 [] (fun _=>Bh [0,1] (fun w f h _=>h.blk) rfl (fun _ h=>h)<|Ag rfl ?_ Ai)
  refine go CH 2 [] (fun b3=>fun _=>Bh [1,2] (fun w f h _=>h.blk) rfl (fun _ h=>h)<|Ag rfl ?_ Ai)
  refine go CH 2 [0] (y<|fun _=>Bh [1,2] (fun w f h _=>h.blk) rfl (fun _ h=>h)<|B3<|go CH 10 [0] (y<|fun _=>B8 rfl rfl (eC Md rfl rfl) (fun w f hM=>GW w f hM.vl tf fa fc oM hfbd hM.f0) (fun x=>⟨BN.mono,trivial⟩) ?_))
  rintro⟨va,vc⟩ -
  have hvl:=GP tf
  refine go CH 5 [] (fun _=>QJ 3 1 ?_)
  refine H9 (α:=Nat×Option Addr×Nat) (fun x=>(Aq tf).length-x.1) (fun x=>x.1≤(Aq tf).length) (fun x=>(E9 0 (.pointer (some ⟨A.cb,0,none⟩)) 2 (.pointer (some ⟨ek,0,none⟩)) 4 (.pointer (some ⟨b1,0,none⟩)) 6 (.pointer (some ⟨b2,0,none⟩)) 7 (.pointer (some ⟨b3,0,none⟩)) 8 (.slice x.2.1 (((Aq tf).take x.1).filter fun v=>b.all.contains v).length x.2.2) 41 (.slice va (Aq tf).length vc) 42 (.int .i64 ((Aq tf).length:Int)) 43 (.int .i64 (x.1:Int)))) (fun x=>⟨BB A,BB A,Au 64 130 A s,w,f⟩) (fun x=>[⟨b3,tC tf fa fc,56,true⟩,⟨b2,[.int .i64 0,.int .i64 0,.string ⟨#[]⟩,.slice none 0 0],56,true⟩,⟨b1,[.int .i64 op,.int .i64 ln,.int .i64 co,S tx,.int .i64 nm,.slice na kids.len nc],54,true⟩]) (fun x=>[⟨3,1,x.2.1,x.2.2,(((Aq tf).take x.1).filter fun v=>b.all.contains v).length,(((Aq tf).take x.1).filter fun v=>b.all.contains v).map fun n=>.int .i64 n⟩]) (fun x=>[⟨ek,0,S b.name::(tC b.t eta etc++[Value.slice eva b.all.length evc,Value.pointer era])⟩]) (fun x=>[fun w f=>BN w f (Aq tf) va vc,fun w f=>Ah w f tf.kids fa fc,fun w f=>BN w f b.all eva evc]) (0,none,0) (Nat.zero_le _) lE (fun w f hM=>hM.less sR sR (fun _ h=>h) (mR [0,1,3])) ?_
  rintro⟨i,ra,rc⟩ hi
  dsimp only at hi ⊢
  have hfl2:(((Aq tf).take i).filter fun v=>b.all.contains v).length≤i:=Nat.le_trans (List.length_filter_le _ _) (by rw[List.length_take];exact Nat.min_le_left _ _)
  refine go CH 6 [] (fun _=>AZ 44 rfl rfl (fun h2=>?_) (fun h2=>?_))
  refine go CH 6 [] (fun _=>?_)
  have hil:i<(Aq tf).length:=by have:=of_decide_eq_true h2;omega
  obtain⟨v0,hx⟩:∃v,(Aq tf)[i]?=some v:=⟨_,List.getElem?_eq_getElem hil⟩
  refine CB (α:=Nat×Nat) (fun x=>va=some ⟨x.1,x.2,none⟩) (fun x=>[⟨x.1,x.2+i*1,[.int .i64 v0]⟩]) (fun x=>[]) (fun w f hM=>let ⟨b,off,h1,h2⟩:=BN.get hM.f0 hx;⟨(b,off),h1,(oE h2),fun _ h=>by cases h⟩) (fun x=>Af.mem trivial) ?_
  rintro⟨vb,voff⟩ rfl
  refine go CH 14 [100,0,101,5] (And.intro oM<|y2<|y2<|fun _=>B8 rfl rfl (eC QG rfl rfl) (fun w f hM=>Fw w f hM.vl b.all eva evc v0 hba hM.f2) (fun x=>trivial) ?_)
  rintro⟨⟩ -
  refine go CH 2 [] (fun _=>AZ 53 rfl rfl (fun h3=>?_) (fun h3=>?_))
  refine go CH 5 [] (fun b4=>fun _=>DH 0 0 rfl rfl Me rfl rfl rfl rfl rfl rfl rfl rfl (fun _ _=>rfl) oM oM fun ra2 rc2=>go CH 8 [] (And.intro ⟨oM,oM⟩<|fun _=>?_))
  have hfe:(((Aq tf).take (i+1)).filter fun v=>b.all.contains v)=(((Aq tf).take i).filter fun v=>b.all.contains v)++[v0]:=by rw[D2 hx,List.filter_append];have h9:v0∈b.all:=(by simpa using h3);simp[h9]
  exact Eb ((i+1,ra2,rc2)) (show (Aq tf).length-(i+1)<(Aq tf).length-i by omega) (show i+1≤_ by omega) (dU rfl rfl rfl rfl rfl (Eq.trans (b:=some (Value.slice ra2 ((((Aq tf).take i).filter fun v=>b.all.contains v).length+1) rc2)) rfl (by dsimp only;rw[hfe];simp)) rfl rfl rfl) (fun w f hM=>⟨_,by dsimp only;rw[hfe];rw[List.length_append,List.map_append];exact hM.less (.cons _ sR) sR (fun _ h=>by rcases List.mem_cons.1 h with rfl|h;exact .tail _ (.head _);cases h) (mR [0,1,2])⟩)
  refine go CH 8 [] (And.intro ⟨oM,oM⟩<|fun _=>?_)
  have hfe:(((Aq tf).take (i+1)).filter fun v=>b.all.contains v)=(((Aq tf).take i).filter fun v=>b.all.contains v):=by rw[D2 hx,List.filter_append];have h9:v0∉b.all:=(by simpa using h3);simp[h9]
  exact Eb ((i+1,ra,rc)) (show (Aq tf).length-(i+1)<(Aq tf).length-i by omega) (show i+1≤_ by omega) (dU rfl rfl rfl rfl rfl (Eq.trans (b:=some (Value.slice ra (((Aq tf).take i).filter fun v=>b.all.contains v).length rc)) rfl (by dsimp only;rw[hfe])) rfl rfl rfl) (fun w f hM=>⟨_,by dsimp only;rw[hfe];skip;exact hM.less sR sR (fun _ h=>by rcases List.mem_cons.1 h with rfl|h;exact .tail _ (.head _);cases h) (mR [0,1,2])⟩)
  refine go CH 3 [] (fun _=>Hc<|go CH 3 [] (fun _=>?_))
  obtain rfl:i=(Aq tf).length:=by have:=of_decide_eq_false h2;omega
  rw[List.take_length] at *
  refine QH (fun w f=>BN w f ((Aq tf).filter fun v=>b.all.contains v) ra rc) BN.mono (fun w f hM=>M1 hM)<|Ml (fun w=>AQ w A.cb [.pointer (some ⟨A.sb,0,none⟩),.map (some A.km),.map (some A.dm),.map (some A.rm),.int .i64 s.vars] 64) (fun w f h _=>h.blk) [0,2] Ap (rd [0,1,2,3] (.br 4 (.br 5 (.br 6 .fin .fin) .fin) .fin)) rfl kR kR kR (fun _ _ _ _ _ h=>h)<|AA CH 4 [0] (y<|fun _=>Ag rfl ?_ Ai)
  refine Ov (XX:=fun _ _=>False) rfl rfl (eC PM rfl rfl) (fun w f hM=>(LI w f hM.vl A hA s hM.res hM.mz hw ((Aq tf).filter fun v=>b.all.contains v) ra rc oM oM).retP) (fun _=>Au.stab) (fun _=>⟨Ah.mono,trivial⟩) (fun _ _ _ _ _ h=>h.elim) ?_
  rintro⟨na2,nc2⟩ -
  have hnl:(B1 ((Aq tf).filter fun v=>b.all.contains v) s).1.len=((Aq tf).filter fun v=>b.all.contains v).length:=by rw[BR];exact FK _ _
  have hnb:(B1 ((Aq tf).filter fun v=>b.all.contains v) s).1.bnd:=by rw[BR];exact IZ _ _
  refine go CH 1 [] (fun _=>Bh [0,2] (fun w f h _=>(by have h9:=h.blk;rw[BR] at h9;exact h9)) rfl (fun _ h=>h)<|Ag rfl ?_ Ai)
  refine B8 rfl rfl (eC D9 rfl rfl) (fun w f hM=>BI w f hM.vl ((Aq tf).filter fun v=>b.all.contains v) ra rc (B1 ((Aq tf).filter fun v=>b.all.contains v) s).1 na2 nc2 oM oM hnb hM.f1 hM.f0 tf fa fc hfbd hM.f3) (fun x=>⟨Ah.mono,trivial⟩) ?_
  rintro⟨a3,c3⟩ -
  refine go CH 1 [] (fun _=>Bh [0,2] (fun w f h _=>(by have h9:=h.blk;rw[BR] at h9;exact h9)) rfl (fun _ h=>h)<|Ag rfl ?_ Ai)
  refine go CH 2 [1] (y<|fun _=>Bh [0,2] (fun w f h _=>(by have h9:=h.blk;rw[BR] at h9;exact h9)) rfl (fun _ h=>h)<|B3<|go CH 2 [] (fun _=>?_))
  have hlk:HC s e tx ln co=.ok (C9 tf ((Aq tf).filter fun v=>b.all.contains v) (B1 ((Aq tf).filter fun v=>b.all.contains v) s).1,(B1 ((Aq tf).filter fun v=>b.all.contains v) s).2):=by rw[HC,hfb2];simp only;rw[hfl]
  exact AY (fun w f hM=>AI rfl (Ac rfl AJ hM.k1 rfl)) (fun w f hM=>⟨((C9 tf ((Aq tf).filter fun v=>b.all.contains v) (B1 ((Aq tf).filter fun v=>b.all.contains v) s).1,a3,c3),(B1 ((Aq tf).filter fun v=>b.all.contains v) s).2),f,rfl,⟨hlk,JF hnb hfbd,(by rw[BR];exact hw.fresh (by have:=hw.fr;omega)),(by rw[BR];show s.fresh+_≤_;omega)⟩,hM.exm,hM.res,⟨hM.f0,trivial⟩⟩)
  refine Ag rfl ?_ Ai
  refine go CH 2 [] (fun b5=>fun _=>Bh [1,2] (fun w f h _=>h.blk) rfl (fun _ h=>h)<|Ag rfl ?_ Ai)
  refine DZ rfl rfl (eC FQ rfl rfl) (fun _ h=>h) (fun w f hM=>Cz w f hM.vl A hA s hM.res hM.mz hw b.t eta etc hbb hM.f0 ln co) (fun _=>Au.stab) (fun _=>⟨Ah.mono,trivial⟩) (fun er w2 f2 he hE=>⟨rfl,er,f2,rfl,(by rw[HC,hfb2];simp only;rw[he]),hE⟩) ?_
  rintro⟨tf,fa,fc⟩ ⟨hfl,hfbd,hfsz⟩
  dsimp only at hfl hfbd hfsz ⊢
  refine go CH 1 [] (fun _=>Bh [1,2] (fun w f h _=>h.blk) rfl (fun _ h=>h)<|Ag rfl ?_ Ai)
  refine go CH 2 [0] (y<|fun _=>Bh [1,2] (fun w f h _=>h.blk) rfl (fun _ h=>h)<|B3<|go CH 10 [0] (y<|fun _=>B8 rfl rfl (eC Md rfl rfl) (fun w f hM=>GW w f hM.vl tf fa fc oM hfbd hM.f0) (fun x=>⟨BN.mono,trivial⟩) ?_))
  rintro⟨va,vc⟩ -
  have hvl:=GP tf
  refine go CH 5 [] (fun _=>QJ 3 1 ?_)
  refine H9 (α:=Nat×Option Addr×Nat) (fun x=>(Aq tf).length-x.1) (fun x=>x.1≤(Aq tf).length) (fun x=>(E9 0 (.pointer (some ⟨A.cb,0,none⟩)) 2 (.pointer (some ⟨ek,0,none⟩)) 4 (.pointer (some ⟨b1,0,none⟩)) 6 (.pointer (some ⟨b2,0,none⟩)) 7 (.pointer (some ⟨b5,0,none⟩)) 8 (.slice x.2.1 (((Aq tf).take x.1).filter fun v=>b.all.contains v).length x.2.2) 41 (.slice va (Aq tf).length vc) 42 (.int .i64 ((Aq tf).length:Int)) 43 (.int .i64 (x.1:Int)))) (fun x=>⟨BB A,BB A,Au 64 130 A s,w,f⟩) (fun x=>[⟨b5,tC tf fa fc,56,true⟩,⟨b2,[.int .i64 0,.int .i64 0,.string ⟨#[]⟩,.slice none 0 0],56,true⟩,⟨b1,[.int .i64 op,.int .i64 ln,.int .i64 co,S tx,.int .i64 nm,.slice na kids.len nc],54,true⟩]) (fun x=>[⟨3,1,x.2.1,x.2.2,(((Aq tf).take x.1).filter fun v=>b.all.contains v).length,(((Aq tf).take x.1).filter fun v=>b.all.contains v).map fun n=>.int .i64 n⟩]) (fun x=>[⟨ek,0,S b.name::(tC b.t eta etc++[Value.slice eva b.all.length evc,Value.pointer era])⟩]) (fun x=>[fun w f=>BN w f (Aq tf) va vc,fun w f=>Ah w f tf.kids fa fc,fun w f=>BN w f b.all eva evc]) (0,none,0) (Nat.zero_le _) lE (fun w f hM=>hM.less sR sR (fun _ h=>h) (mR [0,1,3])) ?_
  rintro⟨i,ra,rc⟩ hi
  dsimp only at hi ⊢
  have hfl2:(((Aq tf).take i).filter fun v=>b.all.contains v).length≤i:=Nat.le_trans (List.length_filter_le _ _) (by rw[List.length_take];exact Nat.min_le_left _ _)
  refine go CH 6 [] (fun _=>AZ 44 rfl rfl (fun h4=>?_) (fun h4=>?_))
  refine go CH 6 [] (fun _=>?_)
  have hil:i<(Aq tf).length:=by have:=of_decide_eq_true h4;omega
  obtain⟨v0,hx⟩:∃v,(Aq tf)[i]?=some v:=⟨_,List.getElem?_eq_getElem hil⟩
  refine CB (α:=Nat×Nat) (fun x=>va=some ⟨x.1,x.2,none⟩) (fun x=>[⟨x.1,x.2+i*1,[.int .i64 v0]⟩]) (fun x=>[]) (fun w f hM=>let ⟨b,off,h1,h2⟩:=BN.get hM.f0 hx;⟨(b,off),h1,(oE h2),fun _ h=>by cases h⟩) (fun x=>Af.mem trivial) ?_
  rintro⟨vb,voff⟩ rfl
  refine go CH 14 [100,0,101,5] (And.intro oM<|y2<|y2<|fun _=>B8 rfl rfl (eC QG rfl rfl) (fun w f hM=>Fw w f hM.vl b.all eva evc v0 hba hM.f2) (fun x=>trivial) ?_)
  rintro⟨⟩ -
  refine go CH 2 [] (fun _=>AZ 53 rfl rfl (fun h5=>?_) (fun h5=>?_))
  refine go CH 5 [] (fun b6=>fun _=>DH 0 0 rfl rfl Me rfl rfl rfl rfl rfl rfl rfl rfl (fun _ _=>rfl) oM oM fun ra2 rc2=>go CH 8 [] (And.intro ⟨oM,oM⟩<|fun _=>?_))
  have hfe:(((Aq tf).take (i+1)).filter fun v=>b.all.contains v)=(((Aq tf).take i).filter fun v=>b.all.contains v)++[v0]:=by rw[D2 hx,List.filter_append];have h9:v0∈b.all:=(by simpa using h5);simp[h9]
  exact Eb ((i+1,ra2,rc2)) (show (Aq tf).length-(i+1)<(Aq tf).length-i by omega) (show i+1≤_ by omega) (dU rfl rfl rfl rfl rfl (Eq.trans (b:=some (Value.slice ra2 ((((Aq tf).take i).filter fun v=>b.all.contains v).length+1) rc2)) rfl (by dsimp only;rw[hfe];simp)) rfl rfl rfl) (fun w f hM=>⟨_,by dsimp only;rw[hfe];rw[List.length_append,List.map_append];exact hM.less (.cons _ sR) sR (fun _ h=>by rcases List.mem_cons.1 h with rfl|h;exact .tail _ (.head _);cases h) (mR [0,1,2])⟩)
  refine go CH 8 [] (And.intro ⟨oM,oM⟩<|fun _=>?_)
  have hfe:(((Aq tf).take (i+1)).filter fun v=>b.all.contains v)=(((Aq tf).take i).filter fun v=>b.all.contains v):=by rw[D2 hx,List.filter_append];have h9:v0∉b.all:=(by simpa using h5);simp[h9]
  exact Eb ((i+1,ra,rc)) (show (Aq tf).length-(i+1)<(Aq tf).length-i by omega) (show i+1≤_ by omega) (dU rfl rfl rfl rfl rfl (Eq.trans (b:=some (Value.slice ra (((Aq tf).take i).filter fun v=>b.all.contains v).length rc)) rfl (by dsimp only;rw[hfe])) rfl rfl rfl) (fun w f hM=>⟨_,by dsimp only;rw[hfe];skip;exact hM.less sR sR (fun _ h=>by rcases List.mem_cons.1 h with rfl|h;exact .tail _ (.head _);cases h) (mR [0,1,2])⟩)
  refine go CH 3 [] (fun _=>Hc<|go CH 3 [] (fun _=>?_))
  obtain rfl:i=(Aq tf).length:=by have:=of_decide_eq_false h4;omega
  rw[List.take_length] at *
  refine QH (fun w f=>BN w f ((Aq tf).filter fun v=>b.all.contains v) ra rc) BN.mono (fun w f hM=>M1 hM)<|Ml (fun w=>AQ w A.cb [.pointer (some ⟨A.sb,0,none⟩),.map (some A.km),.map (some A.dm),.map (some A.rm),.int .i64 s.vars] 64) (fun w f h _=>h.blk) [0,2] Ap (rd [0,1,2,3] (.br 4 (.br 5 (.br 6 .fin .fin) .fin) .fin)) rfl kR kR kR (fun _ _ _ _ _ h=>h)<|AA CH 4 [0] (y<|fun _=>Ag rfl ?_ Ai)
  refine Ov (XX:=fun _ _=>False) rfl rfl (eC PM rfl rfl) (fun w f hM=>(LI w f hM.vl A hA s hM.res hM.mz hw ((Aq tf).filter fun v=>b.all.contains v) ra rc oM oM).retP) (fun _=>Au.stab) (fun _=>⟨Ah.mono,trivial⟩) (fun _ _ _ _ _ h=>h.elim) ?_
  rintro⟨na2,nc2⟩ -
  have hnl:(B1 ((Aq tf).filter fun v=>b.all.contains v) s).1.len=((Aq tf).filter fun v=>b.all.contains v).length:=by rw[BR];exact FK _ _
  have hnb:(B1 ((Aq tf).filter fun v=>b.all.contains v) s).1.bnd:=by rw[BR];exact IZ _ _
  refine go CH 1 [] (fun _=>Bh [0,2] (fun w f h _=>(by have h9:=h.blk;rw[BR] at h9;exact h9)) rfl (fun _ h=>h)<|Ag rfl ?_ Ai)
  refine B8 rfl rfl (eC D9 rfl rfl) (fun w f hM=>BI w f hM.vl ((Aq tf).filter fun v=>b.all.contains v) ra rc (B1 ((Aq tf).filter fun v=>b.all.contains v) s).1 na2 nc2 oM oM hnb hM.f1 hM.f0 tf fa fc hfbd hM.f3) (fun x=>⟨Ah.mono,trivial⟩) ?_
  rintro⟨a3,c3⟩ -
  refine go CH 1 [] (fun _=>Bh [0,2] (fun w f h _=>(by have h9:=h.blk;rw[BR] at h9;exact h9)) rfl (fun _ h=>h)<|Ag rfl ?_ Ai)
  refine go CH 2 [1] (y<|fun _=>Bh [0,2] (fun w f h _=>(by have h9:=h.blk;rw[BR] at h9;exact h9)) rfl (fun _ h=>h)<|B3<|go CH 2 [] (fun _=>?_))
  have hlk:HC s e tx ln co=.ok (C9 tf ((Aq tf).filter fun v=>b.all.contains v) (B1 ((Aq tf).filter fun v=>b.all.contains v) s).1,(B1 ((Aq tf).filter fun v=>b.all.contains v) s).2):=by rw[HC,hfb2];simp only;rw[hfl]
  exact AY (fun w f hM=>AI rfl (Ac rfl AJ hM.k1 rfl)) (fun w f hM=>⟨((C9 tf ((Aq tf).filter fun v=>b.all.contains v) (B1 ((Aq tf).filter fun v=>b.all.contains v) s).1,a3,c3),(B1 ((Aq tf).filter fun v=>b.all.contains v) s).2),f,rfl,⟨hlk,JF hnb hfbd,(by rw[BR];exact hw.fresh (by have:=hw.fr;omega)),(by rw[BR];show s.fresh+_≤_;omega)⟩,hM.exm,hM.res,⟨hM.f0,trivial⟩⟩)
def tW:Ea:=⟨[(64,0,0),(102,1,1),(100,0,0),(102,2,6),(100,1,4)],[(90,3,1)],[],[],[(56,true,4),(49,false,1),(3,false,1),(90,false,1)],[(56,[.int .i64 0,.int .i64 0,.string ⟨#[]⟩,.slice none 0 0])],[],[(49,102)]⟩
theorem CF:tW.Ok Tryz.prog:=⟨(And.intro JT (And.intro RC (And.intro NN (And.intro S2 (And.intro NF trivial))))),(And.intro KZ trivial),trivial,trivial,(And.intro AJ (And.intro eA (And.intro CZ (And.intro Kz trivial)))),(And.intro DD trivial),trivial,(And.intro dV trivial)⟩
theorem W8(w:World)(f:Fq)(hv:Vl w f)(A:Ad)(hA:A.ok)(s:CS)(hC:Au 64 130 A s w f)(hf:∀b,BB A b→f b=0)(hw:DR s)(e:Bg)(ea:Option Addr)(heB:Gg e)(hE:AN w f e ea) :
  BF Tryz.prog 51 #[.pointer (some ⟨A.cb,0,none⟩),.pointer ea] w (O0 (α:=Nat×List Int) (fun x=>.map (some x.1)) (fun x=>¬BB A x.1∧x.2.Nodup∧∀n,x.2.contains n=(B9 s e).contains n) (BB A) (fun x b=>BB A b∨b=x.1) (fun x=>KY 64 130 A s x.1 x.2) (fun _=>[]) w f):=by
 refine Dg (X:=XC 64 130 A s w f) (H:=[]) (R:=[]) (B:=[]) (Fs:=[fun w f=>AN w f e ea]) (f:=f) Tryz.func51 rfl rfl rfl (Lz hv hC hf ⟨hE,trivial⟩ ⟨AN.mono,trivial⟩)<|go CF 7 [] (fun _=>YY (K:=Fp) rfl rfl fun mb hmn=>go CF 5 [] (fun _=>?_))
 refine H9 (α:=Bg×Option Addr×List Int) (fun x=>x.1.length) (fun x=>x.2.2.Nodup∧(∀n,(x.2.2.contains n||(B9 s x.1).contains n)=(B9 s e).contains n)∧Gg x.1) (fun x=>(E3 0 (.pointer (some ⟨A.cb,0,none⟩)) 1 (.pointer x.2.1) 5 (.map (some mb)))) (fun x=>⟨BB A,fun b=>BB A b∨b=mb,KY 64 130 A s mb x.2.2,w,f⟩) (fun x=>[]) (fun x=>[]) (fun x=>[]) (fun x=>[fun w f=>AN w f x.1 x.2.1]) (e,ea,[]) ⟨List.nodup_nil,fun n=>by simp,heB⟩ lE (fun w f hM=>hM) ?_
 rintro⟨e2,ea,ll⟩ ⟨hnd,hq,heb⟩
 dsimp only at hnd hq heb ⊢
 refine go CF 2 [] (fun _=>?_)
 cases e2 with
 |nil =>
  refine Ky (fun w f hM=>(hM.f0:ea=none)) fun hea=>?_
  subst hea
  refine go CF 8 [] (fun _=>Hc<|go CF 9 [] (fun _=>?_))
  have hq5:∀n,ll.contains n=(B9 s e).contains n:=fun n=>by have h9:=hq n;simpa[B9] using h9
  exact AY (Dz rfl rfl) (fun w f hM=>⟨(mb,ll),f,rfl,⟨hmn,hnd,hq5⟩,hM.exm,(fun b hb=>let ⟨h1,h2,h3⟩:=hM.mi b hb;h3.elim (fun h=>.inr ⟨h,h1,h2⟩) .inl),hM.res,trivial⟩)
 |cons b e3 =>
  refine CB (α:=Nat×Option Addr×Nat×Option Addr×Nat×Option Addr) (fun x=>ea=some ⟨x.1,0,none⟩) (fun x=>[⟨x.1,0,S b.name::(tC b.t x.2.1 x.2.2.1++[.slice x.2.2.2.1 b.all.length x.2.2.2.2.1,.pointer x.2.2.2.2.2])⟩]) (fun x=>[fun w f=>Ah w f b.t.kids x.2.1 x.2.2.1,fun w f=>BN w f b.all x.2.2.2.1 x.2.2.2.2.1,fun w f=>AN w f e3 x.2.2.2.2.2]) (fun w f hM=>let ⟨k,ta,tc,va,vc,ra,h1,h2,h3,h4,h5⟩:=hM.f0;⟨(k,ta,tc,va,vc,ra),h1,(oE h2),A1.mem ⟨h3,h4,h5,trivial⟩⟩) (fun x=>Af.mem ⟨Ah.mono,BN.mono,AN.mono,trivial⟩) ?_
  rintro⟨ek,eta,etc,eva,evc,era⟩ rfl
  obtain⟨hbb,hba⟩:=heb b (.head _)
  refine go CF 11 [] (fun _=>Ml (fun w=>AQ w A.cb [.pointer (some ⟨A.sb,0,none⟩),.map (some A.km),.map (some A.dm),.map (some A.rm),.int .i64 s.vars] 64) (fun w f h _=>h.1.blk) [] Ap (rd [0,1,2,3,4,5,6,7,8] (.br 9 (rd [10,11,12] (.br 13 (.br 14 (.rd 15 .fin) .fin) .fin)) (.br 13 (.br 9 (rd [10,11,12] (.br 14 (.rd 15 .fin) .fin)) .fin) .fin))) rfl kR kR kR (fun _ _ _ _ _ h=>h)<|AA CF 3 [] (fun _=>HN rfl rfl rfl (fun w hK=>Al rfl HJ hK.2.2 rfl)<|AA CF 5 [100,1] (y2<|fun _=>Ag rfl ?_ ?_)))
  refine B8 (α:=Option Addr×Nat) rfl rfl (eC PD rfl rfl) (fun w f hM=>let ⟨pr,hp⟩:=hM.res.1.sol;Ka w f hM.vl A.sb A.mb s.sol s.fresh pr hp hw.sol b.t eta etc hbb hM.f0) (fun _=>⟨Ah.mono,trivial⟩) ?_
  rintro⟨a2,c2⟩ -
  refine go CF 1 [] (fun _=>Bh [] (fun w f h _=>h.1.blk) rfl (fun _ h=>h)<|AA CF 3 [] (fun _=>Ag rfl ?_ Ai))
  refine go CF 2 [] (fun b1=>fun _=>Bh [] (fun w f h _=>h.1.blk) rfl (fun _ h=>h)<|Ag rfl ?_ Ai)
  refine go CF 2 [0] (y<|fun _=>Bh [] (fun w f h _=>h.1.blk) rfl (fun _ h=>h)<|AA CF 1 [] (fun _=>B3<|go CF 8 [] (fun _=>AZ 31 rfl rfl (fun h1=>?_) (fun h1=>?_))))
  refine go CF 5 [] (fun _=>?_)
  have hfn:CT s.sol b.t=none:=by cases hx:CT s.sol b.t with|none=>rfl|some z=>rw[hx] at h1;cases h1
  replace hq:∀n,(ll.contains n||(B9 s e3).contains n)=(B9 s e).contains n:=fun n=>by have h9:=hq n;simp only[B9,hfn] at h9;simpa using h9
  exact go CF 7 [100,6] (y2<|fun _=>Eb ((e3,era,ll)) (show e3.length<(b::e3).length from Nat.lt_succ_self _) ⟨hnd,hq,fun b2 hb2=>heb b2 (.tail _ hb2)⟩ lE (fun w f hM=>⟨_,hM.less (.cons _ sR) sR nE (mR [3])⟩))
  refine go CF 4 [] (fun _=>?_)
  obtain⟨tf,htf⟩:∃z,CT s.sol b.t=some z:=by cases hx:CT s.sol b.t with|some z=>exact⟨z,rfl⟩|none=>rw[hx] at h1;cases h1
  have hfbd:tf.bnd:=Kf hw.sol hbb htf
  have hfsz:=I7 htf
  rw[htf]
  dsimp only[Option.getD_some]
  have hfr:∀n,(B9 s (b::e3)).contains n=((((Aq tf).drop 0).filter fun v=>!b.all.contains v).contains n||(B9 s e3).contains n):=fun n=>by simp only[B9,htf,List.drop_zero,List.contains_append]
  refine go CF 2 [0] (y<|fun _=>B8 rfl rfl (eC Md rfl rfl) (fun w f hM=>GW w f hM.vl tf a2 c2 oM hfbd hM.f0) (fun x=>⟨BN.mono,trivial⟩) ?_)
  rintro⟨va,vc⟩ -
  have hvl:=GP tf
  refine go CF 5 [] (fun _=>?_)
  refine H9 (α:=Nat×List Int) (fun x=>(Aq tf).length-x.1) (fun x=>x.1≤(Aq tf).length∧x.2.Nodup∧(∀n,((x.2.contains n||(((Aq tf).drop x.1).filter fun v=>!b.all.contains v).contains n)||(B9 s e3).contains n)=(B9 s e).contains n)) (fun x=>(E6 0 (.pointer (some ⟨A.cb,0,none⟩)) 1 (.pointer (some ⟨ek,0,none⟩)) 5 (.map (some mb)) 33 (.slice va (Aq tf).length vc) 34 (.int .i64 ((Aq tf).length:Int)) 35 (.int .i64 (x.1:Int)))) (fun x=>⟨BB A,fun b=>BB A b∨b=mb,KY 64 130 A s mb x.2,w,f⟩) (fun x=>[]) (fun x=>[]) (fun x=>[⟨ek,0,S b.name::(tC b.t eta etc++[Value.slice eva b.all.length evc,Value.pointer era])⟩]) (fun x=>[fun w f=>BN w f (Aq tf) va vc,fun w f=>BN w f b.all eva evc,fun w f=>AN w f e3 era]) (0,ll) ⟨Nat.zero_le _,hnd,fun n=>by rw[← hq n,hfr n,Bool.or_assoc]⟩ lE (fun w f hM=>hM.less (.cons _ sR) sR (fun _ h=>h) (mR [0,3,4])) ?_
  rintro⟨i,l2⟩ ⟨hi,hnd2,hq3⟩
  dsimp only at hi hnd2 hq3 ⊢
  refine go CF 6 [] (fun _=>AZ 36 rfl rfl (fun h2=>?_) (fun h2=>?_))
  refine go CF 6 [] (fun _=>?_)
  have hil:i<(Aq tf).length:=by have:=of_decide_eq_true h2;omega
  obtain⟨v0,hx⟩:∃v,(Aq tf)[i]?=some v:=⟨_,List.getElem?_eq_getElem hil⟩
  refine CB (α:=Nat×Nat) (fun x=>va=some ⟨x.1,x.2,none⟩) (fun x=>[⟨x.1,x.2+i*1,[.int .i64 v0]⟩]) (fun x=>[]) (fun w f hM=>let ⟨b,off,h1,h2⟩:=BN.get hM.f0 hx;⟨(b,off),h1,(oE h2),fun _ h=>by cases h⟩) (fun x=>Af.mem trivial) ?_
  rintro⟨vb,voff⟩ rfl
  have hdr:(Aq tf).drop i=v0::(Aq tf).drop (i+1):=by obtain⟨h8,h9⟩:=List.getElem?_eq_some_iff.1 hx;rw[List.drop_eq_getElem_cons h8,h9]
  refine go CF 14 [100,0,101,5] (And.intro oM<|y2<|y2<|fun _=>B8 rfl rfl (eC QG rfl rfl) (fun w f hM=>Fw w f hM.vl b.all eva evc v0 hba hM.f1) (fun x=>trivial) ?_)
  rintro⟨⟩ -
  refine go CF 3 [] (fun _=>AZ 46 rfl rfl (fun h3=>?_) (fun h3=>?_))
  replace h3:=FL h3
  refine go CF 4 [] (fun _=>oN (l:=l2) (v:=v0) rfl rfl rfl rfl Oe O1 hmn hnd2<|go CF 7 [] (And.intro ⟨oM,oM⟩<|fun _=>?_))
  have hq4:∀n,(((if l2.contains v0 then l2 else l2++[v0]).contains n||(((Aq tf).drop (i+1)).filter fun v=>!b.all.contains v).contains n)||(B9 s e3).contains n)=(B9 s e).contains n:=fun n=>by have h9:=hq3 n;have h8:(!b.all.contains v0)=true:=(by rw[h3];rfl);rw[hdr,List.filter_cons_of_pos (p:=fun v=>!b.all.contains v) h8] at h9;rw[← h9,Ly]
  exact Eb ((i+1,(if l2.contains v0 then l2 else l2++[v0]))) (show (Aq tf).length-(i+1)<(Aq tf).length-i by omega) ⟨show i+1≤_ by omega,(Pj hnd2),hq4⟩ lE (fun w f hM=>⟨_,hM.less sR sR (fun _ h=>by rcases List.mem_cons.1 h with rfl|h;exact .tail _ (.head _);cases h) (mR [0,1,2])⟩)
  replace h3:=Gn h3
  refine go CF 8 [] (And.intro ⟨oM,oM⟩<|fun _=>?_)
  have hq4:∀n,((l2.contains n||(((Aq tf).drop (i+1)).filter fun v=>!b.all.contains v).contains n)||(B9 s e3).contains n)=(B9 s e).contains n:=fun n=>by have h9:=hq3 n;rw[hdr,List.filter_cons_of_neg (by rw[h3];decide)] at h9;exact h9
  exact Eb ((i+1,l2)) (show (Aq tf).length-(i+1)<(Aq tf).length-i by omega) ⟨show i+1≤_ by omega,hnd2,hq4⟩ lE (fun w f hM=>⟨_,hM.less sR sR (fun _ h=>by rcases List.mem_cons.1 h with rfl|h;exact .tail _ (.head _);cases h) (mR [0,1,2])⟩)
  refine go CF 3 [] (fun _=>Hc<|go CF 3 [] (fun _=>?_))
  have hie:(Aq tf).length≤i:=by have:=of_decide_eq_false h2;omega
  have hq2:∀n,(l2.contains n||(B9 s e3).contains n)=(B9 s e).contains n:=fun n=>by have h9:=hq3 n;rw[List.drop_eq_nil_of_le hie] at h9;simpa using h9
  exact go CF 7 [100,6] (y2<|fun _=>Eb ((e3,era,l2)) (show e3.length<(b::e3).length from Nat.lt_succ_self _) ⟨hnd2,hq2,fun b2 hb2=>heb b2 (.tail _ hb2)⟩ lE (fun w f hM=>⟨_,hM.less sR sR nE (mR [2])⟩))
  refine Ag rfl ?_ Ai
  refine go CF 2 [] (fun b2=>fun _=>Bh [] (fun w f h _=>h.1.blk) rfl (fun _ h=>h)<|Ag rfl ?_ Ai)
  refine B8 (α:=Option Addr×Nat) rfl rfl (eC PD rfl rfl) (fun w f hM=>let ⟨pr,hp⟩:=hM.res.1.sol;Ka w f hM.vl A.sb A.mb s.sol s.fresh pr hp hw.sol b.t eta etc hbb hM.f0) (fun _=>⟨Ah.mono,trivial⟩) ?_
  rintro⟨a2,c2⟩ -
  refine go CF 1 [] (fun _=>Bh [] (fun w f h _=>h.1.blk) rfl (fun _ h=>h)<|AA CF 3 [] (fun _=>Ag rfl ?_ Ai))
  refine go CF 2 [0] (y<|fun _=>Bh [] (fun w f h _=>h.1.blk) rfl (fun _ h=>h)<|AA CF 1 [] (fun _=>B3<|go CF 8 [] (fun _=>AZ 31 rfl rfl (fun h4=>?_) (fun h4=>?_))))
  refine go CF 5 [] (fun _=>?_)
  have hfn:CT s.sol b.t=none:=by cases hx:CT s.sol b.t with|none=>rfl|some z=>rw[hx] at h4;cases h4
  replace hq:∀n,(ll.contains n||(B9 s e3).contains n)=(B9 s e).contains n:=fun n=>by have h9:=hq n;simp only[B9,hfn] at h9;simpa using h9
  exact go CF 7 [100,6] (y2<|fun _=>Eb ((e3,era,ll)) (show e3.length<(b::e3).length from Nat.lt_succ_self _) ⟨hnd,hq,fun b2 hb2=>heb b2 (.tail _ hb2)⟩ lE (fun w f hM=>⟨_,hM.less (.cons _ sR) sR nE (mR [3])⟩))
  refine go CF 4 [] (fun _=>?_)
  obtain⟨tf,htf⟩:∃z,CT s.sol b.t=some z:=by cases hx:CT s.sol b.t with|some z=>exact⟨z,rfl⟩|none=>rw[hx] at h4;cases h4
  have hfbd:tf.bnd:=Kf hw.sol hbb htf
  have hfsz:=I7 htf
  rw[htf]
  dsimp only[Option.getD_some]
  have hfr:∀n,(B9 s (b::e3)).contains n=((((Aq tf).drop 0).filter fun v=>!b.all.contains v).contains n||(B9 s e3).contains n):=fun n=>by simp only[B9,htf,List.drop_zero,List.contains_append]
  refine go CF 2 [0] (y<|fun _=>B8 rfl rfl (eC Md rfl rfl) (fun w f hM=>GW w f hM.vl tf a2 c2 oM hfbd hM.f0) (fun x=>⟨BN.mono,trivial⟩) ?_)
  rintro⟨va,vc⟩ -
  have hvl:=GP tf
  refine go CF 5 [] (fun _=>?_)
  refine H9 (α:=Nat×List Int) (fun x=>(Aq tf).length-x.1) (fun x=>x.1≤(Aq tf).length∧x.2.Nodup∧(∀n,((x.2.contains n||(((Aq tf).drop x.1).filter fun v=>!b.all.contains v).contains n)||(B9 s e3).contains n)=(B9 s e).contains n)) (fun x=>(E6 0 (.pointer (some ⟨A.cb,0,none⟩)) 1 (.pointer (some ⟨ek,0,none⟩)) 5 (.map (some mb)) 33 (.slice va (Aq tf).length vc) 34 (.int .i64 ((Aq tf).length:Int)) 35 (.int .i64 (x.1:Int)))) (fun x=>⟨BB A,fun b=>BB A b∨b=mb,KY 64 130 A s mb x.2,w,f⟩) (fun x=>[]) (fun x=>[]) (fun x=>[⟨ek,0,S b.name::(tC b.t eta etc++[Value.slice eva b.all.length evc,Value.pointer era])⟩]) (fun x=>[fun w f=>BN w f (Aq tf) va vc,fun w f=>BN w f b.all eva evc,fun w f=>AN w f e3 era]) (0,ll) ⟨Nat.zero_le _,hnd,fun n=>by rw[← hq n,hfr n,Bool.or_assoc]⟩ lE (fun w f hM=>hM.less (.cons _ sR) sR (fun _ h=>h) (mR [0,3,4])) ?_
  rintro⟨i,l2⟩ ⟨hi,hnd2,hq3⟩
  dsimp only at hi hnd2 hq3 ⊢
  refine go CF 6 [] (fun _=>AZ 36 rfl rfl (fun h5=>?_) (fun h5=>?_))
  refine go CF 6 [] (fun _=>?_)
  have hil:i<(Aq tf).length:=by have:=of_decide_eq_true h5;omega
  obtain⟨v0,hx⟩:∃v,(Aq tf)[i]?=some v:=⟨_,List.getElem?_eq_getElem hil⟩
  refine CB (α:=Nat×Nat) (fun x=>va=some ⟨x.1,x.2,none⟩) (fun x=>[⟨x.1,x.2+i*1,[.int .i64 v0]⟩]) (fun x=>[]) (fun w f hM=>let ⟨b,off,h1,h2⟩:=BN.get hM.f0 hx;⟨(b,off),h1,(oE h2),fun _ h=>by cases h⟩) (fun x=>Af.mem trivial) ?_
  rintro⟨vb,voff⟩ rfl
  have hdr:(Aq tf).drop i=v0::(Aq tf).drop (i+1):=by obtain⟨h8,h9⟩:=List.getElem?_eq_some_iff.1 hx;rw[List.drop_eq_getElem_cons h8,h9]
  refine go CF 14 [100,0,101,5] (And.intro oM<|y2<|y2<|fun _=>B8 rfl rfl (eC QG rfl rfl) (fun w f hM=>Fw w f hM.vl b.all eva evc v0 hba hM.f1) (fun x=>trivial) ?_)
  rintro⟨⟩ -
  refine go CF 3 [] (fun _=>AZ 46 rfl rfl (fun h6=>?_) (fun h6=>?_))
  replace h6:=FL h6
  refine go CF 4 [] (fun _=>oN (l:=l2) (v:=v0) rfl rfl rfl rfl Oe O1 hmn hnd2<|go CF 7 [] (And.intro ⟨oM,oM⟩<|fun _=>?_))
  have hq4:∀n,(((if l2.contains v0 then l2 else l2++[v0]).contains n||(((Aq tf).drop (i+1)).filter fun v=>!b.all.contains v).contains n)||(B9 s e3).contains n)=(B9 s e).contains n:=fun n=>by have h9:=hq3 n;have h8:(!b.all.contains v0)=true:=(by rw[h6];rfl);rw[hdr,List.filter_cons_of_pos (p:=fun v=>!b.all.contains v) h8] at h9;rw[← h9,Ly]
  exact Eb ((i+1,(if l2.contains v0 then l2 else l2++[v0]))) (show (Aq tf).length-(i+1)<(Aq tf).length-i by omega) ⟨show i+1≤_ by omega,(Pj hnd2),hq4⟩ lE (fun w f hM=>⟨_,hM.less sR sR (fun _ h=>by rcases List.mem_cons.1 h with rfl|h;exact .tail _ (.head _);cases h) (mR [0,1,2])⟩)
  replace h6:=Gn h6
  refine go CF 8 [] (And.intro ⟨oM,oM⟩<|fun _=>?_)
  have hq4:∀n,((l2.contains n||(((Aq tf).drop (i+1)).filter fun v=>!b.all.contains v).contains n)||(B9 s e3).contains n)=(B9 s e).contains n:=fun n=>by have h9:=hq3 n;rw[hdr,List.filter_cons_of_neg (by rw[h6];decide)] at h9;exact h9
  exact Eb ((i+1,l2)) (show (Aq tf).length-(i+1)<(Aq tf).length-i by omega) ⟨show i+1≤_ by omega,hnd2,hq4⟩ lE (fun w f hM=>⟨_,hM.less sR sR (fun _ h=>by rcases List.mem_cons.1 h with rfl|h;exact .tail _ (.head _);cases h) (mR [0,1,2])⟩)
  refine go CF 3 [] (fun _=>Hc<|go CF 3 [] (fun _=>?_))
  have hie:(Aq tf).length≤i:=by have:=of_decide_eq_false h5;omega
  have hq2:∀n,(l2.contains n||(B9 s e3).contains n)=(B9 s e).contains n:=fun n=>by have h9:=hq3 n;rw[List.drop_eq_nil_of_le hie] at h9;simpa using h9
  exact go CF 7 [100,6] (y2<|fun _=>Eb ((e3,era,l2)) (show e3.length<(b::e3).length from Nat.lt_succ_self _) ⟨hnd2,hq2,fun b2 hb2=>heb b2 (.tail _ hb2)⟩ lE (fun w f hM=>⟨_,hM.less sR sR nE (mR [2])⟩))
def uC:Ea:=⟨[(100,0,0),(100,1,4)],[(90,3,1)],[],[],[(56,true,4),(100,true,5),(25,true,2),(3,false,1),(90,false,1)],[(100,[.int .i64 0,.int .i64 0,.string ⟨#[]⟩,.slice none 0 0,.slice none 0 0]),(3,[.int .i64 0]),(102,[.string ⟨#[]⟩,.int .i64 0,.int .i64 0,.string ⟨#[]⟩,.slice none 0 0,.slice none 0 0,.pointer none])],[(100,[(0,4),(4,1)]),(102,[(0,1),(1,5),(6,1)])],[]⟩
theorem Kj:uC.Ok Tryz.prog:=⟨(And.intro NN (And.intro NF trivial)),(And.intro KZ trivial),trivial,trivial,(And.intro AJ (And.intro kW (And.intro CV (And.intro CZ (And.intro Kz trivial))))),(And.intro Xi (And.intro W1 (And.intro X1 trivial))),(And.intro XW (And.intro Yj trivial)),trivial⟩
theorem Ew(w:World)(f:Fq)(hv:Vl w f)(A:Ad)(hA:A.ok)(s:CS)(hC:Au 64 130 A s w f)(hf:∀b,BB A b→f b=0)(hw:DR s)(e:Bg)(ea:Option Addr)(heB:Gg e)(hE:AN w f e ea)(nme:List UInt8)(t:T1)(a:Option Addr)(c:Nat)(hb:t.bnd)(hT:Ah w f t.kids a c)(v:Bool)(ln co:Int) :
  BQ Tryz.prog 21 #[.pointer (some ⟨A.cb,0,none⟩),.pointer ea,S nme,tV t a c,.bool v,.agg #[.int .i64 ln,.int .i64 co]] w (Fl (α:=Bg×Option Addr) (fun x=>.pointer x.2) (fun x=>Hi s e nme t v ln co=.ok x.1∧Gg x.1) (BB A) (fun _=>Au 64 130 A s) (fun x=>[fun w f=>AN w f x.1 x.2]) w f) (PanE 47 (BB A) (fun er=>Hi s e nme t v ln co=.error er) w f):=by
 refine NT (X:=XC 64 130 A s w f) (H:=[]) (R:=[]) (B:=[]) (Fs:=[fun w f=>Ah w f t.kids a c,fun w f=>AN w f e ea]) (f:=f) Tryz.func21 rfl rfl rfl (Lz hv hC hf ⟨hT,hE,trivial⟩ ⟨Ah.mono,AN.mono,trivial⟩)<|go Kj 21 [1,0] (fun b1=>fun b2=>y<|fun b3=>y<|fun _=>AZ 19 rfl rfl (fun h1=>?_) (fun h1=>?_))
 refine go Kj 6 [2,1] (y<|y<|fun _=>DZ rfl rfl (eC FQ rfl rfl) (fun _ h=>h) (fun w f hM=>Cz w f hM.vl A hA s hM.res hM.mz hw t a c hb hM.f0 ln co) (fun _=>Au.stab) (fun _=>⟨Ah.mono,trivial⟩) (fun er w2 f2 he hE=>⟨rfl,er,f2,rfl,(by rw[Hi,if_pos h1,he]),hE⟩) ?_)
 rintro⟨tf,fa,fc⟩ ⟨hfl,hfbd,hfsz⟩
 dsimp only at hfl hfbd hfsz ⊢
 refine go Kj 8 [0] (y<|fun _=>bG (XX:=fun _ _=>False) rfl rfl (eC iN rfl rfl) (fun w f hM=>(W8 w f hM.vl A hA s hM.res hM.mz hw e ea heB hM.f2).retP) (fun _=>KY.stab) (fun _=>trivial) (fun _ _ _ _ _ h=>h.elim) ?_)
 rintro⟨mb,ll⟩ ⟨hmn,hlnd,hlq⟩
 dsimp only at hmn hlnd hlq ⊢
 refine go Kj 7 [0] (y<|fun _=>B8 rfl rfl (eC Md rfl rfl) (fun w f hM=>GW w f hM.vl tf fa fc oM hfbd hM.f0) (fun x=>⟨BN.mono,trivial⟩) ?_)
 rintro⟨va,vc⟩ -
 have hvl:=GP tf
 refine go Kj 5 [] (fun _=>QJ 3 1 ?_)
 refine H9 (α:=Nat×Option Addr×Nat) (fun x=>(Aq tf).length-x.1) (fun x=>x.1≤(Aq tf).length) (fun x=>(E8 0 (.pointer (some ⟨A.cb,0,none⟩)) 1 (.pointer ea) 2 (S nme) 13 (.pointer (some ⟨b3,0,none⟩)) 14 (.map (some mb)) 30 (.slice va (Aq tf).length vc) 31 (.int .i64 ((Aq tf).length:Int)) 32 (.int .i64 (x.1:Int)))) (fun x=>⟨BB A,fun b=>BB A b∨b=mb,KY 64 130 A s mb ll,w,f⟩) (fun x=>[⟨b3,tC tf fa fc++[Value.slice x.2.1 (((Aq tf).take x.1).filter fun v=>!ll.contains v).length x.2.2],100,true⟩,⟨b2,[.int .i64 ln,.int .i64 co],25,true⟩,⟨b1,tC t a c,56,true⟩]) (fun x=>[⟨3,1,x.2.1,x.2.2,(((Aq tf).take x.1).filter fun v=>!ll.contains v).length,(((Aq tf).take x.1).filter fun v=>!ll.contains v).map fun n=>.int .i64 n⟩]) (fun x=>[]) (fun x=>[fun w f=>BN w f (Aq tf) va vc,fun w f=>Ah w f tf.kids fa fc,fun w f=>AN w f e ea]) (0,none,0) (Nat.zero_le _) lE (fun w f hM=>hM.less sR sR nE (mR [0,1,3])) ?_
 rintro⟨i,ra,rc⟩ hi
 dsimp only at hi ⊢
 have hfl2:(((Aq tf).take i).filter fun v=>!ll.contains v).length≤i:=Nat.le_trans (List.length_filter_le _ _) (by rw[List.length_take];exact Nat.min_le_left _ _)
 refine go Kj 6 [] (fun _=>AZ 33 rfl rfl (fun h2=>?_) (fun h2=>?_))
 refine go Kj 6 [] (fun _=>?_)
 have hil:i<(Aq tf).length:=by have:=of_decide_eq_true h2;omega
 obtain⟨v0,hx⟩:∃v,(Aq tf)[i]?=some v:=⟨_,List.getElem?_eq_getElem hil⟩
 refine CB (α:=Nat×Nat) (fun x=>va=some ⟨x.1,x.2,none⟩) (fun x=>[⟨x.1,x.2+i*1,[.int .i64 v0]⟩]) (fun x=>[]) (fun w f hM=>let ⟨b,off,h1,h2⟩:=BN.get hM.f0 hx;⟨(b,off),h1,(oE h2),fun _ h=>by cases h⟩) (fun x=>Af.mem trivial) ?_
 rintro⟨vb,voff⟩ rfl
 refine go Kj 10 [100,0] (And.intro oM<|y2<|fun _=>Fh rfl rfl (fun w f hM=>Ns (K:=Fp) (a:=v0) rfl rfl Oe O1 aZ hM.res.2 (Lx hlnd) (UD v0 ll))<|go Kj 3 [] (fun _=>AZ 39 rfl rfl (fun h3=>?_) (fun h3=>?_)))
 replace h3:=FL h3
 refine go Kj 6 [0] (y<|fun b4=>fun _=>DH 0 0 rfl rfl Me rfl rfl rfl rfl rfl rfl rfl rfl (fun _ _=>rfl) oM oM fun ra2 rc2=>go Kj 9 [1] (y<|And.intro ⟨oM,oM⟩<|fun _=>?_))
 have hfe:(((Aq tf).take (i+1)).filter fun v=>!ll.contains v)=(((Aq tf).take i).filter fun v=>!ll.contains v)++[v0]:=by rw[D2 hx,List.filter_append];have h9:v0∉ll:=(by simpa using h3);simp[h9]
 exact Eb ((i+1,ra2,rc2)) (show (Aq tf).length-(i+1)<(Aq tf).length-i by omega) (show i+1≤_ by omega) lE (fun w f hM=>⟨_,by dsimp only;rw[hfe];rw[List.length_append,List.map_append];exact hM.less (.cons _ sR) sR nE (mR [0,1,2])⟩)
 replace h3:=Gn h3
 refine go Kj 8 [] (And.intro ⟨oM,oM⟩<|fun _=>?_)
 have hfe:(((Aq tf).take (i+1)).filter fun v=>!ll.contains v)=(((Aq tf).take i).filter fun v=>!ll.contains v):=by rw[D2 hx,List.filter_append];have h9:v0∈ll:=(by simpa using h3);simp[h9]
 exact Eb ((i+1,ra,rc)) (show (Aq tf).length-(i+1)<(Aq tf).length-i by omega) (show i+1≤_ by omega) lE (fun w f hM=>⟨_,by dsimp only;rw[hfe];skip;exact hM.less sR sR nE (mR [0,1,2])⟩)
 refine go Kj 3 [] (fun _=>Hc<|go Kj 3 [] (fun _=>?_))
 obtain rfl:i=(Aq tf).length:=by have:=of_decide_eq_false h2;omega
 rw[List.take_length] at *
 refine QH (fun w f=>BN w f ((Aq tf).filter fun v=>!ll.contains v) ra rc) BN.mono (fun w f hM=>M1 hM)<|go Kj 10 [0] (y<|fun b5=>fun _=>Dl 0 rfl rfl ?_)
 have hall:((Aq tf).filter fun v=>!ll.contains v)=(Aq tf).filter fun v=>!(B9 s e).contains v:=List.filter_congr fun v _=>by rw[hlq v]
 exact AY (Dz rfl rfl) (fun w f hM=>⟨(⟨nme,tf,(Aq tf).filter fun v=>!ll.contains v⟩::e,some ⟨b5,0,none⟩),f,rfl,⟨(by rw[Hi,if_pos h1,hfl,hall]),heB.cons hfbd (show ((Aq tf).filter fun v=>!ll.contains v).length≤_ by omega)⟩,hM.exm,hM.res.1,⟨⟨b5,fa,fc,ra,rc,ea,rfl,hM.b0,hM.f2,hM.f0,hM.f3⟩,trivial⟩⟩)
 exact go Kj 14 [0] (y<|fun b6=>fun _=>Dl 0 rfl rfl<|AY (Dz rfl rfl) (fun w f hM=>⟨(⟨nme,t,[]⟩::e,some ⟨b6,0,none⟩),f,rfl,⟨(by rw[Hi,if_neg (by rw[h1];decide)]),heB.cons hb (Nat.zero_le _)⟩,hM.exm,hM.res,⟨⟨b6,a,c,none,0,ea,rfl,hM.b0,hM.f0,⟨Nat.zero_le _,.inl rfl⟩,hM.f1⟩,trivial⟩⟩))
def tT:Ea:=⟨[(54,0,0),(54,4,5)],[(23,54,6)],[],[],[(54,true,6),(3,false,1),(23,false,1)],[],[],[]⟩
theorem Ep:tT.Ok Tryz.prog:=⟨(And.intro IY (And.intro Ga trivial)),(And.intro EI trivial),trivial,trivial,(And.intro Bc (And.intro CZ (And.intro EM trivial))),trivial,trivial,trivial⟩
theorem QQ(n:Nat)(ih:Zm Tryz.prog 22 n)(w:World)(f:Fq)(hv:Vl w f)(op ln co nm:Int)(tx:List UInt8)(kids:Nd)(na:Option Addr)(nc:Nat)(hm:kids.size<n)(hsz:kids.size≤1000000)(hN:AK w f kids na nc) :
  BF Tryz.prog 54 #[.agg #[.int .i64 op,.int .i64 ln,.int .i64 co,S tx,.int .i64 nm,.slice na kids.len nc]] w (BV (α:=Unit) (fun _=>.bool (!C2 n op kids)) (fun _=>True) (fun _=>[]) w f):=by
 refine Dg (X:=X0 w f) (H:=[]) (R:=[]) (B:=[]) (Fs:=[fun w f=>AK w f kids na nc]) (f:=f) Tryz.func54 rfl rfl rfl (C7 hv ⟨hN,trivial⟩ ⟨AK.mono,trivial⟩)<|go Ep 9 [0] (fun b1=>y<|fun _=>B8 rfl rfl (eC Th rfl rfl) (fun w f hM=>ih w f hM.vl op ln co nm tx kids na nc hm hsz hM.f0) (fun x=>trivial) ?_)
 rintro⟨⟩ -
 exact go Ep 5 [] (fun _=>AY (Dz rfl rfl) (fun w f hM=>⟨(),f,rfl,trivial,hM.exm,trivial⟩))
theorem Sn(n:Nat)(ih:Zm Tryz.prog 22 n)(w:World)(f:Fq)(hv:Vl w f)(kids:Nd)(na:Option Addr)(nc:Nat)(hm:kids.size≤n)(hsz:kids.size≤1000000)(hN:AK w f kids na nc) :
  BF Tryz.prog 79 #[.slice na kids.len nc,.func (.func 54) #[] #[]] w (BV (α:=Int) (fun x=>.int .i64 x) (fun x=>decide (0≤x)=!TL (C2 n) kids) (fun _=>[]) w f):=by
 have hkl:=Nd.len_le kids
 refine Dg (X:=X0 w f) (H:=[]) (R:=[]) (B:=[]) (Fs:=[fun w f=>AK w f kids na nc]) (f:=f) Tryz.func79 rfl rfl rfl (C7 hv ⟨hN,trivial⟩ ⟨AK.mono,trivial⟩)<|go Ep 14 [] (fun _=>?_)
 refine H9 (α:=Nat×Nd) (fun x=>x.2.len) (fun x=>x.1+x.2.len=kids.len∧TL (C2 n) kids=TL (C2 n) x.2∧x.2.size≤kids.size) (fun x=>(E4 0 (.slice na kids.len nc) 1 (.func (.func 54) #[] #[]) 7 (.int .i64 (kids.len:Int)) 8 (.int .i64 (x.1:Int)))) (fun x=>X0 w f) (fun x=>[]) (fun x=>[]) (fun x=>[]) (fun x=>[fun w f=>Az w f na x.1 x.2]) (0,kids) ⟨Nat.zero_add _,rfl,Nat.le_refl _⟩ lE (fun w f hM=>hM.more (B':=[]) (F':=[fun w f=>Az w f na 0 kids]) nE (A1.mem ⟨AK.at hM.f0,trivial⟩) (Af.mem ⟨Az.mono,trivial⟩) |>.less sR sR nE (mR [0])) ?_
 rintro⟨i,r⟩ ⟨hi,hal,hrs⟩
 dsimp only at hi hal hrs ⊢
 refine go Ep 6 [] (fun _=>AZ 9 rfl rfl (fun h1=>?_) (fun h1=>?_))
 refine go Ep 6 [] (fun _=>?_)
 have hil:i<kids.len:=by have:=of_decide_eq_true h1;omega
 obtain⟨op2,ln2,co2,tx2,nm2,k2,r,rfl⟩:=Nd.cases1 r oM
 have hi2:i+(r.len+1)=kids.len:=hi
 refine CB (α:=Nat×Nat×Option Addr×Nat) (fun x=>na=some ⟨x.1,x.2.1,none⟩) (fun x=>[⟨x.1,x.2.1+i*6,F9 op2 ln2 co2 tx2 nm2 x.2.2.1 k2.len x.2.2.2⟩]) (fun x=>[fun w f=>AK w f k2 x.2.2.1 x.2.2.2,fun w f=>Az w f na (i+1) r]) (fun w f hM=>let ⟨b,off,ka,kc,h1,h2,h3,h4⟩:=Az.head hM.f0;⟨(b,off,ka,kc),h1,(oE h2),A1.mem ⟨h3,h4,trivial⟩⟩) (fun x=>Af.mem ⟨AK.mono,Az.mono,trivial⟩) ?_
 rintro⟨eb,eo,ka,kc⟩ rfl
 refine go Ep 12 [100,0] (And.intro oM<|y2<|fun _=>B8 rfl rfl (eC hO rfl rfl) (fun w f hM=>QQ n ih w f hM.vl op2 ln2 co2 nm2 tx2 k2 ka kc (by have h9:k2.size+r.size+1≤_:=hrs;omega) (by have h9:k2.size+r.size+1≤_:=hrs;omega) hM.f0) (fun x=>trivial) ?_)
 rintro⟨⟩ -
 refine go Ep 2 [] (fun _=>AZ 16 rfl rfl (fun h2=>?_) (fun h2=>?_))
 exact go Ep 10 [] (fun _=>cU<|go Ep 2 [] (fun _=>AY (Dz rfl rfl) (fun w f hM=>⟨(i:Int),f,rfl,(by rw[hal];show _=!(C2 n op2 k2&&_);rw[FL h2];simp),hM.exm,trivial⟩)))
 exact go Ep 8 [] (And.intro ⟨oM,oM⟩<|fun _=>Eb ((i+1,r)) (show r.len<(Nd.cons op2 ln2 co2 tx2 nm2 k2 r).len from Nat.lt_succ_self _) ⟨show i+1+r.len=_ by omega,hal.trans (by show (C2 n op2 k2&&TL (C2 n) r)=_;rw[Gn h2,Bool.true_and]),show r.size≤_ by have h9:(Nd.cons op2 ln2 co2 tx2 nm2 k2 r).size≤_:=hrs;simp only[Nd.size] at h9;omega⟩ lE (fun w f hM=>⟨_,hM.less sR sR nE (mR [1])⟩))
 refine go Ep 3 [] (fun _=>Hc<|go Ep 3 [] (fun _=>?_))
 obtain rfl:r=.nil:=Nd.len0 (by have:=of_decide_eq_false h1;omega)
 exact go Ep 5 [] (fun _=>AY (Dz rfl rfl) (fun w f hM=>⟨-1,f,rfl,(by rw[hal];rfl),hM.exm,trivial⟩))
theorem JE(n:Nat)(ih:Zm Tryz.prog 22 n)(w:World)(f:Fq)(hv:Vl w f)(kids:Nd)(na:Option Addr)(nc:Nat)(hm:kids.size≤n)(hsz:kids.size≤1000000)(hN:AK w f kids na nc) :
  BF Tryz.prog 53 #[.slice na kids.len nc,.func (.func 54) #[] #[]] w (BV (α:=Unit) (fun _=>.bool (!TL (C2 n) kids)) (fun _=>True) (fun _=>[]) w f):=by
 refine Dg (X:=X0 w f) (H:=[]) (R:=[]) (B:=[]) (Fs:=[fun w f=>AK w f kids na nc]) (f:=f) Tryz.func53 rfl rfl rfl (C7 hv ⟨hN,trivial⟩ ⟨AK.mono,trivial⟩)<|go Ep 9 [] (fun _=>B8 rfl rfl (eC iD rfl rfl) (fun w f hM=>Sn n ih w f hM.vl kids na nc hm hsz hM.f0) (fun x=>trivial) ?_)
 rintro ix hix
 exact go Ep 5 [] (fun _=>AY (Dz rfl rfl) (fun w f hM=>⟨(),f,(by rw[← hix]),trivial,hM.exm,trivial⟩))
theorem TG(n:Nat)(ih:Zm Tryz.prog 22 n)(w:World)(f:Fq)(hv:Vl w f)(op ln co nm:Int)(tx:List UInt8)(kids:Nd)(na:Option Addr)(nc:Nat)(hm:kids.size<n+1)(hsz:kids.size≤1000000)(hN:AK w f kids na nc) :
  BF Tryz.prog 22 #[.agg #[.int .i64 op,.int .i64 ln,.int .i64 co,S tx,.int .i64 nm,.slice na kids.len nc]] w (BV (α:=Unit) (fun _=>.bool (C2 (n+1) op kids)) (fun _=>True) (fun _=>[]) w f):=by
 refine Dg (X:=X0 w f) (H:=[]) (R:=[]) (B:=[]) (Fs:=[fun w f=>AK w f kids na nc]) (f:=f) Tryz.func22 rfl rfl rfl (C7 hv ⟨hN,trivial⟩ ⟨AK.mono,trivial⟩)<|go Ep 21 [0] (fun b1=>y<|fun _=>AZ 5 rfl rfl (fun h1=>?_) (fun h1=>?_))
 exact go Ep 12 [] (fun _=>AY (Dz rfl rfl) (fun w f hM=>⟨(),f,(by simp[C2,h1]),trivial,hM.exm,trivial⟩))
 refine go Ep 7 [] (fun _=>AZ 5 rfl rfl (fun h2=>?_) (fun h2=>?_))
 exact go Ep 12 [] (fun _=>AY (Dz rfl rfl) (fun w f hM=>⟨(),f,(by simp[C2,h1,h2]),trivial,hM.exm,trivial⟩))
 refine go Ep 7 [] (fun _=>AZ 5 rfl rfl (fun h3=>?_) (fun h3=>?_))
 exact go Ep 12 [] (fun _=>AY (Dz rfl rfl) (fun w f hM=>⟨(),f,(by simp[C2,h1,h2,h3]),trivial,hM.exm,trivial⟩))
 refine go Ep 7 [] (fun _=>AZ 5 rfl rfl (fun h4=>?_) (fun h4=>?_))
 exact go Ep 12 [] (fun _=>AY (Dz rfl rfl) (fun w f hM=>⟨(),f,(by simp[C2,h1,h2,h3,h4]),trivial,hM.exm,trivial⟩))
 refine go Ep 7 [] (fun _=>AZ 5 rfl rfl (fun h5=>?_) (fun h5=>?_))
 exact go Ep 12 [] (fun _=>AY (Dz rfl rfl) (fun w f hM=>⟨(),f,(by simp[C2,h1,h2,h3,h4,h5]),trivial,hM.exm,trivial⟩))
 refine go Ep 6 [] (fun _=>AZ 5 rfl rfl (fun h6=>?_) (fun h6=>?_))
 exact go Ep 9 [] (fun _=>AY (Dz rfl rfl) (fun w f hM=>⟨(),f,(by simp[C2,h1,h2,h3,h4,h5,h6]),trivial,hM.exm,trivial⟩))
 refine go Ep 8 [] (fun _=>AZ 12 rfl rfl (fun h7=>?_) (fun h7=>?_))
 refine go Ep 8 [0] (y<|fun _=>B8 rfl rfl (eC Yt rfl rfl) (fun w f hM=>JE n ih w f hM.vl kids na nc oM hsz hM.f0) (fun x=>trivial) ?_)
 rintro⟨⟩ -
 exact go Ep 7 [] (fun _=>AY (Dz rfl rfl) (fun w f hM=>⟨(),f,(by simp[C2,h1,h2,h3,h4,h5,h6,h7]),trivial,hM.exm,trivial⟩))
 refine go Ep 6 [] (fun _=>AZ 12 rfl rfl (fun h8=>?_) (fun h8=>?_))
 refine go Ep 5 [0] (y<|fun _=>B8 rfl rfl (eC Yt rfl rfl) (fun w f hM=>JE n ih w f hM.vl kids na nc oM hsz hM.f0) (fun x=>trivial) ?_)
 rintro⟨⟩ -
 exact go Ep 7 [] (fun _=>AY (Dz rfl rfl) (fun w f hM=>⟨(),f,(by simp[C2,h1,h2,h3,h4,h5,h6,h7,h8]),trivial,hM.exm,trivial⟩))
 exact go Ep 10 [] (fun _=>AY (Dz rfl rfl) (fun w f hM=>⟨(),f,(by simp[C2,h1,h2,h3,h4,h5,h6,h7,h8]),trivial,hM.exm,trivial⟩))
theorem K5:∀n,Zm Tryz.prog 22 n
 |0=>fun _ _ _ _ _ _ _ _ _ _ _ h=>absurd h (Nat.not_lt_zero _)
 |n+1=>fun w f hv op ln co nm tx kids na nc hm hsz hN=>TG n (K5 n) w f hv op ln co nm tx kids na nc hm hsz hN
end Go.Proofs.YthofplgbhecdcaaGreatDoor
