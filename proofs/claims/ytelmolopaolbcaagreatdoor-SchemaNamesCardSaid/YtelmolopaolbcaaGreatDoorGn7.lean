/- SchemaNames: of every two shapes the law answers true: how variables are called is nothing; how constructors are, and which there are, is not. -/
import Derived.Test.YtelmolopaolbcaaGreatDoorGn6
set_option linter.unusedVariables false
set_option linter.unusedSimpArgs false
namespace Go.SW
variable {σ:Bf}{P:Program}{r1 r2 r3 r4:ResultVar}{v1 v2 v3 v4:Value}{w:wO}
theorem fR{fn:Func}(h:fn.results=#[r1,r2,r3,r4])(D:Rv P σ w r1 v1)(F:Rv P σ w r2 v2)(G:Rv P σ w r3 v3)(J:Rv P σ w r4 v4):UH P fn σ w (.tuple #[v1,v2,v3,v4]):=λtmps d=>by
 have g1:=D tmps d;have g2:=F tmps d;have g3:=G tmps d;have g4:=J tmps d;rw[Hy,h,List.mapM_toArray];simp[g1,g2,g3,g4]
end Go.SW
namespace Go.Proofs.YtelmolopaolbcaaGreatDoor
open Go.SW Go.SP Go.RowKit
section
variable{src:lU}
theorem YK(h:((CE src).2.2.2 != 0)=true):Ht src=none:=by
 unfold Ht;rw[fC (by simpa using h)]
theorem Y0(h:((CE src).2.2.2 != 0)=false)(d:((mW (C3 (CE src).1)).2.2 != 0)=true):Ht src=none:=by
 unfold Ht;rw[OQ (by simpa using h)]
 cases D:C3 (CE src).1 with
 |error e=>rfl
 |ok l=>rw[D] at d;cases d
theorem XU(h:((CE src).2.2.2 != 0)=false)(d:((mW (C3 (CE src).1)).2.2 != 0)=false):(∃F,C3 (CE src).1=.ok F)∧Ht src=some (ZA (CE src).1):=by
 unfold Ht;rw[OQ (by simpa using h)]
 cases D:C3 (CE src).1 with
 |error e =>
   rw[D] at d;exact absurd (show e.2.2=0 by simpa[mW] using d) (aY D)
 |ok l=>exact⟨⟨_,C⟩,C⟩
end
theorem rem_m(z:Int)(m:Nat)(hm:0<m):∃i:Nat,i<m∧(IntKind.u64.wrap z).tmod (m:Int)=(i:Int):=by
 have d:0≤IntKind.u64.wrap z:=by rw[IntKind.wrap_u64];omega
 refine⟨((IntKind.u64.wrap z) % (m:Int)).toNat,?_,?_⟩
 · have D:=Int.emod_lt_of_pos (IntKind.u64.wrap z) (show (0:Int)<m by omega)
   have h:=Int.emod_nonneg (IntKind.u64.wrap z) (show (m:Int)≠0 by omega);omega
 · rw[Int.tmod_eq_emod_of_nonneg d]
   have h:=Int.emod_nonneg (IntKind.u64.wrap z) (show (m:Int)≠0 by omega);omega
end Go.Proofs.YtelmolopaolbcaaGreatDoor
namespace Go.Proofs.YtelmolopaolbcaaGreatDoor
open Go.SW Go.SP Go.RowKit Go.Proofs.Tryz
theorem Gc(w:wO)(f:Fq)(K:Vl w f)(L:Dy w f)(O:FI w f)(src:lU) :
   Bq prog 6 #[S src] w (RtV (Ht src) w f):=by
 refine Cw (X:=X0 w f) (H:=[]) (R:=[]) (B:=[]) (Fs:=[λw f=>Dy w f,λw f=>FI w f]) (f:=f) func6 C C C (Ci K ⟨L,O,tQ⟩ ⟨Dy.mono,FI.mono,tQ⟩)<|Aa 11 [] (λb1=>λ_=>Bt C C (eC uP C C) (λw f d=>gD w f d.vl d.f0 src) (λ_=>⟨AH.mono,tQ⟩) ?_);rintro⟨J,nc⟩ -;dsimp only;refine Aa 17 [0] (λb2=>y<|λ_=>AN 21 C C (λh=>?_) (λh=>?_));exact Aa 12 [1] (y<|λ_=>AR (λw f d=>fR C (Ah C) (Ac C Fa d.k1 C) (Ah C) (Ah C)) (λw f d=>(by rw[YK h];exact⟨(none,0),f,C,tQ,d.exm,⟨Nat.zero_le _,.inl C⟩,tQ⟩)));refine Aa 7 [] (λ_=>Bt C C (eC xG C C) (λw f d=>gM w f d.vl d.f2 _ J nc (I3 src).wft (I3 src).size (I3 src).txb d.f0) (λ_=>⟨K3.mono,tQ⟩) ?_);rintro⟨a,c⟩ -;refine Aa 16 [0] (λb3=>y<|λ_=>AN 30 C C (λD=>?_) (λD=>?_));exact Aa 12 [2] (y<|λ_=>AR (λw f d=>fR C (Ah C) (Ac C Fa d.k2 C) (Ah C) (Ah C)) (λw f d=>(by rw[Y0 h D];exact⟨(none,0),f,C,tQ,d.exm,⟨Nat.zero_le _,.inl C⟩,tQ⟩)));refine Aa 6 [] (λ_=>?_);obtain⟨⟨U,F⟩,G⟩:=XU h D;refine Bt C C (eC vK C C) (λw f d=>SS w f d.vl (CE src).1 J nc (I3 src).size (I3 src).txb (Yu F) (Tq (I3 src).wft) d.f1) (λ_=>⟨K3.mono,tQ⟩) ?_;rintro⟨Q,rc⟩ -;refine Aa 11 [0] (λb4=>y<|λ_=>CF [0,1,2] Al (rd [0,1,2,3] (.br 4 (.rd 5 (.rd 6 .fin)) .fin)) C kR<|A2 4 [0] (y<|λ_=>Ag C ?_ Aj));exact Aa 2 [3] (y<|λ_=>Au [0,1,2] C<|A2 2 [] (λ_=>Bm<|Aa 2 [] (λ_=>AR (λw f d=>fR C (Ah C) (Ac C Fa d.k3 C) (Ah C) (Ah C)) (λw f d=>(by rw[G];exact⟨(Q,rc),f,C,tQ,d.exm,d.f0,tQ⟩)))))
theorem SC(w:wO)(f:Fq)(d:Vl w f)(D:Dy w f)(F:FI w f):Bq prog 6 #[S fB] w (B3 (α:=oA×Nat) (λx=>.tuple #[.slice x.1 1 x.2,.agg #[.int .i64 0,.int .i64 0],.int .i64 0,.bool true]) (λ_=>True) (λx=>[λw f=>K3 w f sV x.1 x.2]) w f):=by
 have h:=Gc w f d D F fB;rw[rL] at h;exact h
theorem S5(w:wO)(f:Fq)(d:Vl w f)(D:Dy w f)(F:FI w f):Bq prog 6 #[S aR] w (B3 (α:=oA×Nat) (λx=>.tuple #[.slice x.1 0 x.2,.agg #[.int .i64 1,.int .i64 9],.int .i64 17,.bool true]) (λ_=>True) (λx=>[λw f=>K3 w f ([]:List (lU×lU)) x.1 x.2]) w f):=by
 have h:=Gc w f d D F aR;rw[rT] at h;exact h
theorem UI(w:wO)(f:Fq)(h:Vl w f)(D:Dy w f)(F:FI w f) :
   Bq prog 8 #[] w (B3 (α:=Unit) (λ_=>.bool true) (λ_=>True) (λ_=>[]) w f):=by
 refine Cw (X:=X0 w f) (H:=[]) (R:=[]) (B:=[]) (Fs:=[λw f=>Dy w f,λw f=>FI w f]) (f:=f) func8 C C C (Ci h ⟨D,F,tQ⟩ ⟨Dy.mono,FI.mono,tQ⟩)<|Aa 7 [] (λ_=>Bt C C (eC Qe C C) (λw f d=>SC w f d.vl d.f0 d.f1) (λ_=>⟨K3.mono,tQ⟩) ?_);rintro⟨G,L⟩ -;refine KU (α:=Nat×Nat) (λx=>G=some ⟨x.1,x.2,none⟩) (λx=>[⟨x.1,x.2,bC sV⟩]) (λx=>[]) (λw f d=>let ⟨x,J,K⟩:=K3.opn d.f0 (List.cons_ne_nil _ _);⟨x,J,oE K,nE⟩) (λx=>Aw.mem tQ) ?_;rintro⟨O,Q⟩ rfl;refine Aa 14 [0] (λb1=>y<|λ_=>Bt C C (eC Qe C C) (λw f d=>S5 w f d.vl d.f1 d.f2) (λ_=>⟨K3.mono,tQ⟩) ?_);rintro⟨U,dc⟩ -;exact Aa 41 [0,100,1,0] (λb2=>y<|And.intro dC<|y2<|y<|λ_=>Dn C C (λw f d=>bW rH C C)<|Aa 5 [] (λ_=>AR (CY C C) (λw f d=>⟨(),f,C,tQ,d.exm,tQ⟩)))
end Go.Proofs.YtelmolopaolbcaaGreatDoor
namespace Go.SP
open Go.SW Go.RowKit
def pD(d:UInt8):Prop:=d=41∨d=32
theorem mZ{d:UInt8}(h:pD d):decide (Lib.indexByte Jz d<0)=false:=by rcases h with rfl|rfl <;> decide
def Fo.cat:Fo→Fo→Fo
 |.nil,y=>y
 |.cons t k r,y=>.cons t k (r.cat y)
theorem L6:∀x:Fo,x.cat .nil=x
 |.nil=>rfl
 |.cons t k r=>by rw[Fo.cat,L6 r]
theorem NQ(t:AB)(k:Fo):∀x y:Fo,x.cat (y.snoc t k)=(x.cat y).snoc t k
 |.nil,_=>rfl
 |.cons a b r,y=>by rw[Fo.cat,NQ t k r y];rfl
theorem RT(t:AB)(k:Fo):∀x:Fo,(x.snoc t k).len=x.len+1
 |.nil=>rfl
 |.cons a b r=>by show (r.snoc t k).len+1=r.len+1+1;rw[RT t k r]
def Gk:AB:=AB.er ⟨0,1,1,0,[]⟩
def O0:AB:=AB.er ⟨1,1,1,0,[]⟩
theorem HR(y:lU):Ij (40::y)=(Ij y).map ([Gk] ++ ·):=by
 rw[Lj,show xH (40::y)=some ([Gk],y) from C]
theorem Gz(y:lU):Ij (41::y)=(Ij y).map ([O0] ++ ·):=by
 rw[Lj,show xH (41::y)=some ([O0],y) from C]
theorem Cy(y:lU):Ij (32::y)=Ij y:=by
 rw[Lj,show xH (32::y)=some ([],y) from C];simp
theorem Uh{d:UInt8}{b:lU}(hd:decide (Lib.indexByte Jz d<0)=false):∀(w:lU)(p:Ps),w.all (λx=>decide (Lib.indexByte Jz x<0))=true→(CW p (w++d::b)).1=w∧(CW p (w++d::b)).2.1=d::b
 | [],p,_=>by simp[CW,hd]
 |c::w,p,h=>by
   simp only[List.all_cons,Bool.and_eq_true] at h;have D:=Uh (b:=b) hd w (adv c p) h.2;simp only[List.cons_append,CW,h.1,if_true];exact⟨by rw[D.1],D.2⟩
variable {nm:Int}
theorem lS{c d:UInt8}{w b tx:lU}{k:Int}(h:(decide ((0:Int)≤Lib.indexByte ED c)||(c.toNat:Int)==59||(c.toNat:Int)==40||(c.toNat:Int)==41||(c.toNat:Int)==34)=false)
   (hd:decide (Lib.indexByte Jz d<0)=false) (hw:w.all (λx=>decide (Lib.indexByte Jz x<0))=true) (hm:Hw (c::w)=some (k,nm,tx)):Ij (c::(w++d::b))=(Ij (d::b)).map ([AB.er ⟨k,1,1,nm,tx⟩] ++ ·):=by
 simp only[Bool.or_eq_false_iff] at h;have g:=Uh (b:=b) hd w (adv c (1,1)) hw
 have e:xH (c::(w++d::b))=some ([AB.er ⟨k,1,1,nm,tx⟩],d::b):=by
   unfold xH;rw[CA,if_neg (by rw[h.1.1.1.1];decide),if_neg (by rw[h.1.1.1.2];decide),if_neg (by rw[h.1.1.2];decide),if_neg (by rw[h.1.2];decide),if_neg (by rw[h.2];decide),g.1,hm];simp only[Li,g.2];rfl
 rw[Lj,e]
def Es(w:lU):AB:=AB.er ⟨5,1,1,0,w⟩
abbrev DB:=Nat×Nat
def dg(i:Nat):UInt8:=UInt8.ofNat (48+i)
def vN(v:lU)(i:Nat):lU:=39::(v++[dg i])
def B4(v:lU):Nat→lU
 |0=>[]
 |n+1=>B4 v n++32::vN v n
def Cc:lU:=[105,110,116]
def I4:lU:=[115,116,114,105,110,103]
def Ep:lU:=[116,117,112,108,101]
def HX(v:lU)(n:Nat):DB→lU
 |(0,_)=>32::Cc
 |(1,_)=>[32,40,116]++B4 v n++[41]
 |(2,j)=>32::vN v j
 |(3,_)=>[32,40]++Ep++32::Cc++32::vN v 0++[41]
 |(_,_)=>32::I4
def Cf(v:lU)(n:Nat)(l:List DB):lU:=l.flatMap (HX v n)
def Rc(c:UInt8)(v:lU)(n i:Nat)(l:List DB):lU:=[32,40,c,dg i]++Cf v n l++[41]
def En(c:UInt8)(v:lU)(n:Nat):Nat→List (List DB)→lU
 |_,[]=>[]
 |i,l::r=>Rc c v n i l++En c v n (i+1) r
def Ec(n:Nat)(cs:List (List DB))(v:lU)(c:UInt8):lU:=[40,100,97,116,97,32,116,32,40]++B4 v n++[41]++En c v n 0 cs++[32,40,c,57,41,41]
def Dx:Nat→lU
 |0=>[]
 |n+1=>Dx n++32::Cc
def DK(n:Nat)(cs:List (List DB))(v:lU)(c:UInt8):lU:=Ec n cs v c++([32,40,114,111,111,116,32,114,32,40,116]++Dx n++[41,32,c,57,41])
structure GW(k:Int)(w:lU):Prop where
 ex:∃c t,w=c::t∧(decide ((0:Int)≤Lib.indexByte ED c)||(c.toNat:Int)==59||(c.toNat:Int)==40||(c.toNat:Int)==41||(c.toNat:Int)==34)=false∧t.all (λx=>decide (Lib.indexByte Jz x<0))=true∧Hw (c::t)=some (k,0,c::t)
def Sc(k:Int)(w:lU):AB:=AB.er ⟨k,1,1,0,w⟩
theorem F7{k:Int}{w:lU}(h:GW k w)(d:UInt8)(b:lU)(hd:pD d):Ij (w++d::b)=(Ij (d::b)).map ([Sc k w] ++ ·):=by
 obtain⟨c,t,rfl,D,F,G⟩:=h.ex;exact lS D (mZ hd) F G
structure GV(v:lU):Prop where
 w:∀i,i<3→GW 5 (vN v i)
 l:0<v.length
theorem Kz{k:Int}(c:UInt8)(t:lU)(h:((decide ((0:Int)≤Lib.indexByte ED c)||(c.toNat:Int)==59||(c.toNat:Int)==40||(c.toNat:Int)==41||(c.toNat:Int)==34)=false∧t.all (λx=>decide (Lib.indexByte Jz x<0))=true))(hm:Hw (c::t)=some (k,0,c::t)):GW k (c::t):=⟨c,t,C,h.1,h.2,hm⟩
theorem wQ:GV [97]:=⟨λi d=>by
 rcases (show i=0∨i=1∨i=2 by omega) with rfl|rfl|rfl <;> exact Kz _ _ dC kR,dC⟩
theorem gv_z:GV [122,122]:=⟨λi d=>by
 rcases (show i=0∨i=1∨i=2 by omega) with rfl|rfl|rfl <;> exact Kz _ _ dC kR,dC⟩
theorem Wj:GW 5 Cc:=Kz _ _ dC kR
theorem xR:GW 5 I4:=Kz _ _ dC kR
theorem xS:GW 5 Ep:=Kz _ _ dC kR
theorem fI:GW 5 [116]:=Kz _ _ dC kR
def GC(c:UInt8):Prop:=c=67∨c=68
variable {st:List (AB×Fo)}{i m n:Nat}
theorem iW{c:UInt8}(hc:GC c)(d:i<10):GW 6 [c,dg i]:=by
 rcases (show i=0∨i=1∨i=2∨i=3∨i=4∨i=5∨i=6∨i=7∨i=8∨i=9 by omega) with rfl|rfl|rfl|rfl|rfl|rfl|rfl|rfl|rfl|rfl <;> rcases hc with rfl|rfl <;> exact Kz _ _ dC kR
def jD(v:lU):Nat→List AB
 |0=>[]
 |n+1=>jD v n++[Es (vN v n)]
def YN(v:lU)(n:Nat):DB→List AB
 |(0,_)=>[Es Cc]
 |(1,_)=>[Gk,Es [116]]++jD v n++[O0]
 |(2,j)=>[Es (vN v j)]
 |(3,_)=>[Gk,Es Ep,Es Cc,Es (vN v 0),O0]
 |(_,_)=>[Es I4]
def Ls(v:lU)(n:Nat)(l:List DB):List AB:=l.flatMap (YN v n)
def oD(c:UInt8)(v:lU)(n i:Nat)(l:List DB):List AB:=[Gk,Sc 6 [c,dg i]]++Ls v n l++[O0]
def Lx(c:UInt8)(v:lU)(n:Nat):Nat→List (List DB)→List AB
 |_,[]=>[]
 |i,l::r=>oD c v n i l++Lx c v n (i+1) r
def MJ:Nat→List AB
 |0=>[]
 |n+1=>MJ n++[Es Cc]
theorem Nz(a b:List AB)(o:Option (List AB)):(o.map (b ++ ·)).map (a ++ ·)=o.map ((a++b) ++ ·):=by cases o <;> simp
section
variable{v:lU}(hv:GV v){c:UInt8}(hc:GC c)
include hv
theorem Pf:∀(n:Nat),n≤3→∀(d:UInt8)(b:lU),pD d→Ij (B4 v n++d::b)=(Ij (d::b)).map (jD v n ++ ·)
 |0,_,d,b,_=>by simp only[B4,jD,List.nil_append];cases Ij (d::b) <;> rfl
 |n+1,h,d,b,hd=>by
   have e:B4 v (n+1)++d::b=B4 v n++32::(vN v n++d::b):=by simp[B4]
   rw[e,Pf n (by omega) 32 _ (.inr C),Cy,F7 (hv.w n (by omega)) d b hd,Nz];rfl
theorem rC(D:n≤3)(o:DB)(F:o.2<3)(d:UInt8)(b:lU)(hd:pD d):Ij (HX v n o++d::b)=(Ij (d::b)).map (YN v n o ++ ·):=by
 obtain⟨k,j⟩:=o
 match k with
 |0 =>
   show Ij (32::(Cc++d::b))=_;rw[Cy,F7 Wj d b hd];rfl
 |1 =>
   have e:HX v n (1,j)++d::b=32::40::(116::(B4 v n++41::(d::b))):=by simp[HX]
   rw[e,Cy,HR]
   have G:Ij (116::(B4 v n++41::(d::b)))=(Ij (B4 v n++41::(d::b))).map ([Es [116]] ++ ·):=by
     cases n with
     |zero=>exact F7 fI 41 _ (.inl C)
     |succ n =>
       obtain⟨q,h⟩:∃q,B4 v (n+1)++41::(d::b)=32::q:=by
         have:∀m,∃q,B4 v (m+1)=32::q:=λm=>by
           induction m with
           |zero=>exact⟨_,C⟩
           |succ m J=>obtain⟨q,h⟩:=J;exact⟨_,by rw[B4,h];rfl⟩
         obtain⟨q,h⟩:=this n;exact⟨_,by rw[h];rfl⟩
       rw[h];exact F7 fI 32 _ (.inr C)
   rw[G,Pf hv n D 41 _ (.inl C),Gz];simp only[Nz];rfl
 |2 =>
   show Ij (32::(vN v j++d::b))=_;rw[Cy,F7 (hv.w j F) d b hd];rfl
 |3 =>
   have e:HX v n (3,j)++d::b=32::40::(Ep++32::(Cc++32::(vN v 0++41::(d::b)))):=by simp[HX]
   rw[e,Cy,HR,F7 xS 32 _ (.inr C),Cy,F7 Wj 32 _ (.inr C),Cy,F7 (hv.w 0 (by decide)) 41 _ (.inl C),Gz];simp only[Nz];rfl
 |k+4 =>
   show Ij (32::(I4++d::b))=_;rw[Cy,F7 xR d b hd];rfl
omit hv in
theorem fY(n:Nat)(o:DB):∃q,HX v n o=32::q:=by
 obtain⟨k,j⟩:=o
 match k with
 |0=>exact⟨_,C⟩
 |1=>exact⟨_,C⟩
 |2=>exact⟨_,C⟩
 |3=>exact⟨_,C⟩
 |k+4=>exact⟨_,C⟩
theorem Xa(F:n≤3):∀(l:List DB),(∀o∈l,o.2<3)→∀(d:UInt8)(b:lU),pD d→Ij (Cf v n l++d::b)=(Ij (d::b)).map (Ls v n l ++ ·)
 | [],_,d,b,_=>by simp only[Cf,Ls,List.flatMap_nil,List.nil_append];cases Ij (d::b) <;> rfl
 |o::l,h,d,b,hd=>by
   have J:=Xa F l (λo K=>h o (.tail _ K)) d b hd;have e:Cf v n (o::l)++d::b=HX v n o++(Cf v n l++d::b):=by simp[Cf]
   obtain⟨d2,b2,G,D⟩:∃d2 b2,Cf v n l++d::b=d2::b2∧pD d2:=by
     cases l with
     |nil=>exact⟨d,b,C,hd⟩
     |cons x l=>obtain⟨q,L⟩:=fY n x;exact⟨32,_,by rw[Cf,List.flatMap_cons,L];rfl,.inr C⟩
   rw[e,G,rC hv F o (h o (.head _)) d2 b2 D,← G,J,Nz];rfl
include hc
theorem tZ(D:n≤3)(F:i<10)(l:List DB)(G:∀o∈l,o.2<3)(y:lU):Ij (Rc c v n i l++y)=(Ij y).map (oD c v n i l ++ ·):=by
 have e:Rc c v n i l++y=32::40::([c,dg i]++(Cf v n l++41::y)):=by simp[Rc]
 obtain⟨d2,b2,h,d⟩:∃d2 b2,Cf v n l++41::y=d2::b2∧pD d2:=by
   cases l with
   |nil=>exact⟨41,y,C,.inl C⟩
   |cons x l=>obtain⟨q,J⟩:=fY n x;exact⟨32,_,by rw[Cf,List.flatMap_cons,J];rfl,.inr C⟩
 rw[e,Cy,HR,h,F7 (iW hc F) d2 b2 d,← h,Xa hv D l G 41 y (.inl C),Gz];simp only[Nz];simp[oD]
theorem XE(d:n≤3):∀(cs:List (List DB))(i:Nat),i+cs.length≤10→(∀l∈cs,∀o∈l,o.2<3)→∀y,Ij (En c v n i cs++y)=(Ij y).map (Lx c v n i cs ++ ·)
 | [],i,_,_,y=>by simp only[En,Lx,List.nil_append];cases Ij y <;> rfl
 |l::r,i,D,h,y=>by
   simp only[List.length_cons] at D;rw[En,List.append_assoc,tZ hv hc d (by omega) l (h l (.head _)),XE d r (i+1) (by omega) (λl F=>h l (.tail _ F)),Nz];rfl
end
theorem Xt:∀(n:Nat)(d:UInt8)(b:lU),pD d→Ij (Dx n++d::b)=(Ij (d::b)).map (MJ n ++ ·)
 |0,d,b,_=>by simp only[Dx,MJ,List.nil_append];cases Ij (d::b) <;> rfl
 |n+1,d,b,hd=>by
   have e:Dx (n+1)++d::b=Dx n++32::(Cc++d::b):=by simp[Dx]
   rw[e,Xt n 32 _ (.inr C),Cy,F7 Wj d b hd,Nz];rfl
theorem XI:∀m,∃q,Dx (m+1)=32::q
 |0=>⟨_,C⟩
 |m+1=>by obtain⟨q,d⟩:=XI m;exact⟨_,by rw[Dx,d];rfl⟩
def YU(n:Nat)(cs:List (List DB))(v:lU)(c:UInt8):List AB:=[Gk,Es [100,97,116,97],Es [116],Gk]++(jD v n++([O0]++(Lx c v n 0 cs++([Gk,Sc 6 [c,57],O0]++[O0]))))
def Zk(n:Nat)(c:UInt8):List AB:=[Gk,Es [114,111,111,116],Es [114],Gk,Es [116]]++(MJ n++([O0,Sc 6 [c,57]]++[O0]))
theorem bK{v:lU}(hv:GV v){c:UInt8}(hc:GC c)(d:n≤3){cs:List (List DB)}(K:cs.length≤4)(h:∀l∈cs,∀o∈l,o.2<3):Ij (DK n cs v c)=some (YU n cs v c++Zk n c):=by
 have gd:GW 5 [100,97,116,97]:=Kz _ _ dC kR;have D:GW 5 [114,111,111,116]:=Kz _ _ dC kR;have F:GW 5 [114]:=Kz _ _ dC kR;have g9:GW 6 [c,57]:=iW hc (i:=9) dC
 have e:DK n cs v c=40::([100,97,116,97]++32::([116]++32::(40::(B4 v n++41::(En c v n 0 cs++(32::40::([c,57]++41::(41::(32::40::([114,111,111,116]++32::([114]++32::(40::([116]++(Dx n++41::(32::([c,57]++41::[])))))))))))))))):=by
   simp[DK,Ec]
 have G:Ij ([116]++(Dx n++41::(32::([c,57]++41::[]))))=(Ij (Dx n++41::(32::([c,57]++41::[])))).map ([Es [116]] ++ ·):=by
   cases n with
   |zero=>exact F7 fI 41 _ (.inl C)
   |succ n=>obtain⟨q,J⟩:=XI n;rw[J];exact F7 fI 32 _ (.inr C)
 rw[e,HR,F7 gd 32 _ (.inr C),Cy,F7 fI 32 _ (.inr C),Cy,HR,Pf hv n d 41 _ (.inl C),Gz,XE hv hc d cs 0 (by omega) h,Cy,HR,F7 g9 41 _ (.inl C),Gz,Gz,Cy,HR,F7 D 32 _ (.inr C),Cy,F7 F 32 _ (.inr C),Cy,HR,G,Xt n 41 _ (.inl C),Gz,Cy,F7 g9 41 _ (.inl C),Gz,kX];simp only[Option.map_some,YU,Zk,List.append_assoc,List.append_nil,List.cons_append,List.nil_append];rfl
def Vj(v:lU):Nat→Fo
 |0=>.nil
 |n+1=>(Vj v n).snoc (Es (vN v n)) .nil
def iZ:Nat→Fo
 |0=>.nil
 |n+1=>(iZ n).snoc (Es Cc) .nil
def Y2(v:lU)(n:Nat):DB→AB×Fo
 |(0,_)=>(Es Cc,.nil)
 |(1,_)=>(Gk,.cons (Es [116]) .nil (Vj v n))
 |(2,j)=>(Es (vN v j),.nil)
 |(3,_)=>(Gk,.cons (Es Ep) .nil (.cons (Es Cc) .nil (.cons (Es (vN v 0)) .nil .nil)))
 |(_,_)=>(Es I4,.nil)
def HO(v:lU)(n:Nat):List DB→Fo
 | []=>.nil
 |o::l=>.cons (Y2 v n o).1 (Y2 v n o).2 (HO v n l)
def Lu(c:UInt8)(v:lU)(n:Nat):Nat→List (List DB)→Fo
 |_,[]=>.cons Gk (.cons (Sc 6 [c,57]) .nil .nil) .nil
 |i,l::r=>.cons Gk (.cons (Sc 6 [c,dg i]) .nil (HO v n l)) (Lu c v n (i+1) r)
theorem LB(t:AB)(k r:Fo):∀x:Fo,x.cat (.cons t k r)=(x.snoc t k).cat r
 |.nil=>rfl
 |.cons a b q=>by rw[Fo.cat,LB t k r q];rfl
theorem Fu(w:lU)(l:List AB)(st:List (AB×Fo))(cur:Fo):AA (Es w::l) st cur=AA l st (cur.snoc (Es w) .nil):=rfl
theorem HJ(h:st.length<200)(l:List AB)(cur:Fo):AA (Gk::l) st cur=AA l ((Gk,cur)::st) .nil:=by
 show (if st.length==200 then _ else _)=_;rw[if_neg (by simp;omega)]
theorem Gu(l:List AB)(o:AB)(p:Fo)(st:List (AB×Fo))(cur:Fo):AA (O0::l) ((o,p)::st) cur=AA l st (p.snoc o cur):=rfl
theorem OU(v:lU)(st:List (AB×Fo)):∀(n:Nat)(l:List AB)(cur:Fo),AA (jD v n++l) st cur=AA l st (cur.cat (Vj v n))
 |0,l,cur=>by simp only[jD,Vj,List.nil_append,L6]
 |n+1,l,cur=>by
   rw[jD,List.append_assoc,OU v st n];show AA (Es (vN v n)::l) st _=_;rw[Fu,Vj,NQ]
theorem WR(st:List (AB×Fo)):∀(n:Nat)(l:List AB)(cur:Fo),AA (MJ n++l) st cur=AA l st (cur.cat (iZ n))
 |0,l,cur=>by simp only[MJ,iZ,List.nil_append,L6]
 |n+1,l,cur=>by
   rw[MJ,List.append_assoc,WR st n];show AA (Es Cc::l) st _=_;rw[Fu,iZ,NQ]
theorem rF(v:lU)(n:Nat)(o:DB)(h:st.length<200)(l:List AB)(cur:Fo):AA (YN v n o++l) st cur=AA l st (cur.snoc (Y2 v n o).1 (Y2 v n o).2):=by
 obtain⟨k,j⟩:=o
 match k with
 |0=>rfl
 |1 =>
   have e:YN v n (1,j)++l=Gk::Es [116]::(jD v n++O0::l):=by simp[YN]
   rw[e,HJ h,Fu,OU,Gu];rfl
 |2=>rfl
 |3 =>
   show AA (Gk::Es Ep::Es Cc::Es (vN v 0)::O0::l) st cur=_;rw[HJ h,Fu,Fu,Fu,Gu];rfl
 |k+4=>rfl
theorem X1(v:lU)(n:Nat)(h:st.length<200):∀(os:List DB)(l:List AB)(cur:Fo),AA (Ls v n os++l) st cur=AA l st (cur.cat (HO v n os))
 | [],l,cur=>by simp only[Ls,HO,List.flatMap_nil,List.nil_append,L6]
 |o::os,l,cur=>by
   have e:Ls v n (o::os)++l=YN v n o++(Ls v n os++l):=by simp[Ls]
   rw[e,rF v n o h,X1 v n h os,HO,LB]
theorem dD(w:lU)(l:List AB)(st:List (AB×Fo))(cur:Fo):AA (Sc 6 w::l) st cur=AA l st (cur.snoc (Sc 6 w) .nil):=rfl
theorem WZ(c:UInt8)(v:lU)(n:Nat)(h:st.length<199):∀(cs:List (List DB))(i:Nat)(l:List AB)(cur:Fo),AA (Lx c v n i cs++([Gk,Sc 6 [c,57],O0]++l)) st cur=AA l st (cur.cat (Lu c v n i cs))
 | [],i,l,cur=>by
   show AA (Gk::Sc 6 [c,57]::O0::l) st cur=_;rw[HJ (by omega),dD,Gu,Lu,LB,L6];rfl
 |os::r,i,l,cur=>by
   have e:Lx c v n i (os::r)++([Gk,Sc 6 [c,57],O0]++l)=Gk::Sc 6 [c,dg i]::(Ls v n os++(O0::(Lx c v n (i+1) r++([Gk,Sc 6 [c,57],O0]++l)))):=by simp[Lx,oD]
   rw[e,HJ (by omega),dD,X1 v n (by simp only[List.length_cons];omega),Gu,WZ c v n h r (i+1),Lu,LB];rfl
def mI(n:Nat)(cs:List (List DB))(v:lU)(c:UInt8):Fo:=.cons (Es [100,97,116,97]) .nil (.cons (Es [116]) .nil (.cons Gk (Vj v n) (Lu c v n 0 cs)))
def nT(n:Nat)(c:UInt8):Fo:=.cons (Es [114,111,111,116]) .nil (.cons (Es [114]) .nil (.cons Gk (.cons (Es [116]) .nil (iZ n)) (.cons (Sc 6 [c,57]) .nil .nil)))
theorem cW(n:Nat)(cs:List (List DB))(v:lU)(c:UInt8):AA (YU n cs v c++Zk n c) [] .nil=.ok (.cons Gk (mI n cs v c) (.cons Gk (nT n c) .nil)):=by
 have e:YU n cs v c++Zk n c=Gk::Es [100,97,116,97]::Es [116]::Gk::(jD v n++(O0::(Lx c v n 0 cs++([Gk,Sc 6 [c,57],O0]++(O0::Gk::Es [114,111,111,116]::Es [114]::Gk::Es [116]::(MJ n++(O0::Sc 6 [c,57]::O0::[]))))))):=by simp[YU,Zk]
 rw[e,HJ (by simp),Fu,Fu,HJ (by simp),OU,Gu,WZ c v n (by simp),Gu,HJ (by simp),Fu,Fu,HJ (by simp),Fu,WR,Gu,dD,Gu];simp only[AA];rfl
def Uz(v:lU):Nat→Nd
 |0=>.nil
 |n+1=>(Uz v n).app (.cons 31 0 0 (vN v n) 0 .nil .nil)
def yH:Nat→Nd
 |0=>.nil
 |n+1=>(yH n).app (.cons 32 0 0 Cc 0 .nil .nil)
def optN(v:lU)(n:Nat):DB→N
 |(0,_)=>⟨32,0,0,Cc,0,.nil⟩
 |(1,_)=>⟨32,0,0,[116],0,Uz v n⟩
 |(2,j)=>⟨31,0,0,vN v j,0,.nil⟩
 |(3,_)=>⟨32,0,0,Ep,0,.cons 32 0 0 Cc 0 .nil (.cons 31 0 0 (vN v 0) 0 .nil .nil)⟩
 |(_,_)=>⟨32,0,0,I4,0,.nil⟩
def GH(v:lU)(n:Nat):List DB→Nd
 | []=>.nil
 |o::l=>(optN v n o).cons (GH v n l)
def DN(c:UInt8)(v:lU)(n:Nat):Nat→List (List DB)→Nd
 |_,[]=>.cons 42 0 0 [c,57] 0 .nil .nil
 |i,l::r=>.cons 42 0 0 [c,dg i] 0 (GH v n l) (DN c v n (i+1) r)
theorem Mh(f:AB→Fo→R N)(t:AB)(k:Fo){a:N}(D:f t k=.ok a):∀(x:Fo)(y:Nd),A9 f x=.ok y→A9 f (x.snoc t k)=.ok (y.app a.one)
 |.nil,_,h=>by cases h;simp only[Fo.snoc,A9,D];rfl
 |.cons u l r,y,h=>by
   simp only[A9] at h
   cases hu:f u l with
   |error e=>rw[hu] at h;cases h
   |ok b =>
     rw[hu] at h
     cases d:A9 f r with
     |error e=>rw[d] at h;cases h
     |ok z =>
       rw[d] at h
       cases h
       simp only[Fo.snoc,A9,hu,Mh f t k D r z d];rfl
theorem QZ(v:lU):∀n,(Vj v n).len=n
 |0=>rfl
 |n+1=>by rw[Vj,RT,QZ v n]
theorem VE:∀n,(iZ n).len=n
 |0=>rfl
 |n+1=>by rw[iZ,RT,VE n]
theorem qQ{v:lU}(hv:GV v)(i:Nat):(Es (vN v i)).isTypeVar=true:=by
 show ((5:Int)==5&&(((Z4 (vN v i)).toNat:Int)==39&&decide (1<((vN v i).length:Int))))=true;have:decide (1<((vN v i).length:Int))=true:=by simp only[vN,List.length_cons,List.length_append,List.length_nil,decide_eq_true_eq];omega
 rw[this];rfl
theorem UT{v:lU}(hv:GV v)(i m:Nat):BV (m+1) (Es (vN v i)) .nil=.ok ⟨31,0,0,vN v i,0,.nil⟩:=by
 show (if (Es (vN v i)).isTypeVar then (Except.ok (Ay (Es (vN v i)) 31 (vN v i) .nil):R N) else _)=_;rw[qQ hv i];rfl
theorem SB{v:lU}(hv:GV v)(m:Nat):∀n,A9 (BV (m+1)) (Vj v n)=.ok (Uz v n)
 |0=>rfl
 |n+1=>by rw[Vj,Mh _ _ _ (UT hv n m) _ _ (SB hv m n)];rfl
theorem Ve(m:Nat):BV (m+1) (Es Cc) .nil=.ok ⟨32,0,0,Cc,0,.nil⟩:=kR
theorem rK(m:Nat):BV (m+1) (Es I4) .nil=.ok ⟨32,0,0,I4,0,.nil⟩:=kR
theorem XD(m:Nat):∀n,A9 (BV (m+1)) (iZ n)=.ok (yH n)
 |0=>rfl
 |n+1=>by rw[iZ,Mh _ _ _ (Ve m) _ _ (XD m n)];rfl
theorem zE{x:Fo}{y:Nd}(h:A9 (BV (m+1)) x=.ok y)(F:1≤x.len)(G:x.len≤8):BV (m+2) Gk (.cons (Es [116]) .nil x)=.ok ⟨32,0,0,[116],0,y⟩:=by
 have e:BV (m+2) Gk (.cons (Es [116]) .nil x)=need Gk ((Es [116]).isTypeName&&within x.len 1 8) (match A9 (BV (m+1)) x with|.error e=>.error e|.ok d=>.ok (Ay Gk 32 [116] d)):=kR
 have D:((Es [116]).isTypeName&&within x.len 1 8)=true:=by
   rw[show (Es [116]).isTypeName=true by kernel_rfl];simp only[within,Bool.true_and,Bool.and_eq_true,decide_eq_true_eq];omega
 rw[e,D,h];rfl
theorem uI{v:lU}(hv:GV v)(d:1≤n)(D:n≤3)(m:Nat)(o:DB):BV (m+2) (Y2 v n o).1 (Y2 v n o).2=.ok (optN v n o):=by
 obtain⟨k,j⟩:=o
 match k with
 |0=>exact Ve _
 |1=>exact zE (SB hv m n) (by rw[QZ];exact d) (by rw[QZ];omega)
 |2=>exact UT hv j _
 |3 =>
   have he:A9 (BV (m+1)) (.cons (Es Cc) .nil (.cons (Es (vN v 0)) .nil .nil))=.ok (.cons 32 0 0 Cc 0 .nil (.cons 31 0 0 (vN v 0) 0 .nil .nil)):=by simp only[A9,Ve,UT hv 0 m];rfl
   have e:BV (m+2) Gk (.cons (Es Ep) .nil (.cons (Es Cc) .nil (.cons (Es (vN v 0)) .nil .nil)))=(match A9 (BV (m+1)) (.cons (Es Cc) .nil (.cons (Es (vN v 0)) .nil .nil)) with|.error e=>.error e|.ok h=>.ok (Ay Gk 32 Ep h)):=kR;show BV (m+2) Gk (.cons (Es Ep) .nil (.cons (Es Cc) .nil (.cons (Es (vN v 0)) .nil .nil)))=_;rw[e,he];rfl
 |k+4=>exact rK _
theorem WE{v:lU}(hv:GV v)(d:1≤n)(h:n≤3)(m:Nat):∀l:List DB,A9 (BV (m+2)) (HO v n l)=.ok (GH v n l)
 | []=>rfl
 |o::l=>by simp only[HO,A9,uI hv d h m o,WE hv d h m l];rfl
theorem SR(v:lU)(n:Nat):∀l:List DB,(HO v n l).len=l.length
 | []=>rfl
 |o::l=>by rw[HO,Fo.len,SR v n l];rfl
theorem cV{v:lU}(hv:GV v)(d:1≤n)(h:n≤3)(m:Nat)(w:lU){l:List DB}(F:l.length≤4):Eo (m+2) Gk (.cons (Sc 6 w) .nil (HO v n l))=.ok ⟨42,0,0,w,0,GH v n l⟩:=by
 have e:Eo (m+2) Gk (.cons (Sc 6 w) .nil (HO v n l))=need Gk (decide (((HO v n l).len+1:Nat)≤(9:Int))) (match A9 (BV (m+2)) (HO v n l) with|.error e=>.error e|.ok D=>.ok (Ay Gk 42 w D)):=kR;rw[e,WE hv d h m l,SR,need,if_pos (by simp only[decide_eq_true_eq];omega)];rfl
theorem Xr{v:lU}(hv:GV v)(d:1≤n)(D:n≤3)(m:Nat)(c:UInt8):∀(cs:List (List DB))(i:Nat),(∀l∈cs,l.length≤4)→A9 (Eo (m+2)) (Lu c v n i cs)=.ok (DN c v n i cs)
 | [],i,_=>by
   have:=cV hv d D m [c,57] (l:=[]) dC;simp only[HO,GH] at this;simp only[Lu,A9,this];rfl
 |l::r,i,h=>by
   simp only[Lu,A9,cV hv d D m [c,dg i] (h l (.head _)),Xr hv d D m c r (i+1) (λl F=>h l (.tail _ F))];rfl
theorem Tw{v:AB}(hv:v.isTypeVar=true):∀(x:Fo)(y:Nd),Bk x=some y→Bk (x.snoc v .nil)=some (y.app (Ay v 31 v.tx .nil).one)
 |.nil,_,h=>by cases h;simp only[Fo.snoc,Bk,hv];rfl
 |.cons u l r,y,h=>by
   simp only[Bk] at h
   split at h
   · rename_i hu
     cases d:Bk r with
     |none=>rw[d] at h;cases h
     |some z =>
       rw[d] at h
       cases h
       simp only[Fo.snoc,Bk,hu,if_true,Tw hv r z d];rfl
   · cases h
theorem PZ{v:lU}(hv:GV v):∀n,Bk (Vj v n)=some (Uz v n)
 |0=>rfl
 |n+1=>by rw[Vj,Tw (qQ hv n) _ _ (PZ hv n)];rfl
def Ro(n:Nat)(cs:List (List DB))(v:lU)(c:UInt8):Nd:=.cons 41 0 0 [116] 0 ((Uz v n).app (DN c v n 0 cs)) (.cons 43 0 0 [114] 0 (.cons 32 0 0 [116] 0 (yH n) (.cons 6 0 0 [c,57] 0 .nil .nil)) .nil)
theorem SM{v:lU}(hv:GV v)(D:1≤n)(F:n≤3)(c:UInt8){cs:List (List DB)}(G:∀l∈cs,l.length≤4):A9 (Co 200) (.cons Gk (mI n cs v c) (.cons Gk (nT n c) .nil))=.ok (Ro n cs v c):=by
 have hd:Co 200 Gk (mI n cs v c)=.ok ⟨41,0,0,[116],0,(Uz v n).app (DN c v n 0 cs)⟩:=by
   obtain⟨q,h,qr,J⟩:∃q h qr,Lu c v n 0 cs=.cons q h qr:=by cases cs <;> exact⟨_,_,_,C⟩
   have d:=Xr hv D F 198 c cs 0 G;unfold mI;rw[J] at d ⊢
   have e:Co 200 Gk (.cons (Es [100,97,116,97]) .nil (.cons (Es [116]) .nil (.cons Gk (Vj v n) (.cons q h qr))))=need Gk (decide (((Vj v n).len:Int)≤8)) (match Bk (Vj v n) with
       |none=>.error (0,0)
       |some vs=>match A9 (Eo 200) (.cons q h qr) with
         |.error e=>.error e
         |.ok cs=>.ok (Ay Gk 41 [116] (vs.app cs))):=kR
   rw[e,QZ,need,if_pos (by simp only[decide_eq_true_eq];omega),PZ hv,d];rfl
 have K:Co 200 Gk (nT n c)=.ok ⟨43,0,0,[114],0,.cons 32 0 0 [116] 0 (yH n) (.cons 6 0 0 [c,57] 0 .nil .nil)⟩:=by
   have e:Co 200 Gk (nT n c)=(match BV 200 Gk (.cons (Es [116]) .nil (iZ n)) with
       |.error e=>.error e
       |.ok x=>match BG 200 (Sc 6 [c,57]) .nil with
         |.error e=>.error e
         |.ok y=>.ok (Ay Gk 43 [114] (x.cons y.one))):=kR
   rw[e,zE (XD 198 n) (by rw[VE];exact D) (by rw[VE];omega)];rfl
 simp only[A9,hd,K];rfl
theorem ZQ{v:lU}(hv:GV v){c:UInt8}(hc:GC c)(D:1≤n)(d:n≤3){cs:List (List DB)}(F:cs.length≤4)(G:∀l∈cs,l.length≤4)(h:∀l∈cs,∀o∈l,o.2<3):pO 200 (DK n cs v c)=some (Ro n cs v c):=by
 unfold pO;rw[bK hv hc d F h];show (match Ox 200 (YU n cs v c++Zk n c) with|.error _=>none|.ok x=>some x)=_;unfold Ox;rw[cW];dsimp only;rw[SM hv D d c G]
theorem C6{x:Nd}{op ln co nm:Int}{tx:lU}{k r:Nd}(h:x.er=.cons op ln co tx nm k r):∃d D F r',x=.cons op d D tx nm F r'∧F.er=k∧r'.er=r:=by
 cases x with
 |nil=>cases h
 |cons=>cases h;exact⟨_,_,_,_,C,C,C⟩
theorem EB{x:Nd}(h:x.er=.nil):x=.nil:=by
 cases x with
 |nil=>rfl
 |cons=>cases h
theorem Ub:∀x:Nd,x.er.len=x.len
 |.nil=>rfl
 |.cons _ _ _ _ _ _ r=>by simp only[Nd.er,Nd.len,Ub r]
def nmL(v:lU):Nat→Nat→Nd
 |_,0=>.nil
 |i,k+1=>.cons 31 0 0 (vN v i) 0 .nil (nmL v (i+1) k)
def oV:Nat→Nd
 |0=>.nil
 |k+1=>.cons 32 0 0 Cc 0 .nil (oV k)
def M5:Nat→Ty
 |0=>.nil
 |k+1=>.con Cc .nil (M5 k)
theorem AaB(v:lU){n:Nat}(d:1≤n)(h:n≤3):Uz v n=nmL v 0 n:=by
 rcases (show n=1∨n=2∨n=3 by omega) with rfl|rfl|rfl <;> rfl
theorem pV{n:Nat}(d:1≤n)(h:n≤3):yH n=oV n:=by
 rcases (show n=1∨n=2∨n=3 by omega) with rfl|rfl|rfl <;> rfl
theorem WJ(v:lU):∀k i,(nmL v i k).len=k
 |0,_=>rfl
 |k+1,i=>by rw[nmL,Nd.len,WJ v k (i+1)]
theorem QW:∀k,(oV k).len=k
 |0=>rfl
 |k+1=>by rw[oV,Nd.len,QW k]
variable {j:Nat}
theorem MH(d:i<10)(D:j<10)(h:i≠j):dg i≠dg j:=λe=>by
 have:=congrArg UInt8.toNat e;simp only[dg,UInt8.toNat_ofNat'] at this;omega
theorem L5{v:lU}(d:i<10)(D:j<10)(h:i≠j):(vN v i==vN v j)=false:=by
 refine beq_false_of_ne λe=>MH d D h ?_;simp only[vN,List.cons.injEq,true_and] at e;have:=List.append_cancel_left e;simpa using this
theorem cn_ne(c:UInt8)(d:i<10)(D:j<10)(h:i≠j):([c,dg i]==[c,dg j])=false:=by
 refine beq_false_of_ne λe=>MH d D h ?_;simpa using e
section
variable{ds:List (lU×Int)}{m:List (lU×T1)}{ln co nm:Int}{k r:Nd}
theorem cI{tx:lU}{t:T1}{l:Ty}(d:AD m tx=some t)(h:Dr ds m r=.ok l):Dr ds m (.cons 31 ln co tx nm k r)=.ok (t.cons l):=by
 show (match (match AD m tx with|some t=>.ok t|none=>.error (ln,co,11):RI T1) with
   |.error x=>.error x
   |.ok t=>match Dr ds m r with
     |.error x=>.error x
     |.ok l=>.ok (t.cons l):RI Ty)=_
 rw[d,h]
theorem K8{tx:lU}{kt l:Ty}(d:(if Cq EO ([32]++tx++[32]) then (k.len:Int)==0
         else if tx==DA then (k.len:Int)==2
         else if Cq IU ([32]++tx++[32]) then true
         else match AD ds tx with|some c=>c==(k.len:Int)|none=>false)=true)(h:Dr ds m k=.ok kt)(D:Dr ds m r=.ok l):Dr ds m (.cons 32 ln co tx nm k r)=.ok (.con tx kt l):=by
 show (match (if (if Cq EO ([32]++tx++[32]) then (k.len:Int)==0
         else if tx==DA then (k.len:Int)==2
         else if Cq IU ([32]++tx++[32]) then true
         else match AD ds tx with|some c=>c==(k.len:Int)|none=>false)
       then (match Dr ds m k with|.error x=>.error x|.ok k=>.ok (.con tx k))
       else .error (ln,co,11):RI T1) with
   |.error x=>.error x
   |.ok t=>match Dr ds m r with
     |.error x=>.error x
     |.ok l=>.ok (t.cons l):RI Ty)=_
 rw[d,if_pos C,h,D];rfl
theorem aZ(v:lU):∀(k i:Nat)(x:Nd),x.er=nmL v i k→(∀j,i≤j→j<i+k→∃t,AD m (vN v j)=some t)→∃l,Dr ds m x=.ok l
 |0,i,x,h,_=>by obtain rfl:=EB h;exact⟨_,C⟩
 |k+1,i,x,h,hm=>by
   obtain⟨ln,co,G,r',rfl,_,d⟩:=C6 h;obtain⟨t,D⟩:=hm i (Nat.le_refl _) oM;obtain⟨l,F⟩:=aZ v k (i+1) r' d (λj J d=>hm j oM oM);exact⟨_,cI D F⟩
theorem aP:∀(k:Nat)(x:Nd),x.er=oV k→Dr ds m x=.ok (M5 k)
 |0,x,h=>by obtain rfl:=EB h;rfl
 |k+1,x,h=>by
   obtain⟨ln,co,F,r',rfl,d,D⟩:=C6 h;obtain rfl:=EB d;exact K8 kR C (aP k r' D)
theorem dO{v:lU}{n:Nat}(L:1≤n)(O:n≤3)(hd:AD ds [116]=some (n:Int))(hm:∀j,j<n→∃t,AD m (vN v j)=some t):∀(l:List DB)(x:Nd),x.er=GH v n l→(∀o∈l,o.2<n)→∃y,Dr ds m x=.ok y
 | [],x,h,_=>by obtain rfl:=EB h;exact⟨_,C⟩
 |(o,j)::l,x,h,Q=>by
   have U:j<n:=Q _ (.head _);have J:∀r',r'.er=GH v n l→∃y,Dr ds m r'=.ok y:=λr' Y=>dO L O hd hm l r' Y (λo h=>Q o (.tail _ h))
   match o with
   |0 =>
     obtain⟨ln,co,G,r',rfl,d,D⟩:=C6 (show x.er=.cons 32 0 0 Cc 0 .nil (GH v n l) from h);obtain rfl:=EB d;obtain⟨y,F⟩:=J r' D;exact⟨_,K8 kR C F⟩
   |1 =>
     obtain⟨ln,co,G,r',rfl,d,D⟩:=C6 (show x.er=.cons 32 0 0 [116] 0 (Uz v n) (GH v n l) from h);obtain⟨y,F⟩:=J r' D;rw[AaB v L O] at d;obtain⟨kt,Z⟩:=aZ (ds:=ds) (m:=m) v n 0 G d (λj _ h=>hm j oM);have hl:G.len=n:=by rw[← Ub,d,WJ]
     refine⟨_,K8 ?_ Z F⟩;rw[show Cq EO ([32]++[116]++[32])=false by kernel_rfl,show (([116]:lU)==DA)=false by decide,show Cq IU ([32]++[116]++[32])=false by kernel_rfl,hd,hl];simp
   |2 =>
     obtain⟨ln,co,G,r',rfl,d,D⟩:=C6 (show x.er=.cons 31 0 0 (vN v j) 0 .nil (GH v n l) from h);obtain⟨y,F⟩:=J r' D;obtain⟨t,K⟩:=hm j U;exact⟨_,cI K F⟩
   |3 =>
     obtain⟨ln,co,G,r',rfl,d,D⟩:=C6 (show x.er=.cons 32 0 0 Ep 0 (.cons 32 0 0 Cc 0 .nil (.cons 31 0 0 (vN v 0) 0 .nil .nil)) (GH v n l) from h);obtain⟨y,F⟩:=J r' D;obtain⟨l1,c1,k1,r1,rfl,a1,a2⟩:=C6 d;obtain rfl:=EB a1;obtain⟨l2,c2,k2,r2,rfl,b1,b2⟩:=C6 a2;obtain rfl:=EB b2;obtain⟨t,K⟩:=hm 0 oM;exact⟨_,K8 kR (K8 kR C (cI K C)) F⟩
   |o+4 =>
     obtain⟨ln,co,G,r',rfl,d,D⟩:=C6 (show x.er=.cons 32 0 0 I4 0 .nil (GH v n l) from h);obtain rfl:=EB d;obtain⟨y,F⟩:=J r' D;exact⟨_,K8 kR C F⟩
end
section
variable{ds:List (lU×Int)}{m:List (lU×T1)}{out:T1}{nums:List Int}{c:UInt8}{v:lU}{n:Nat}
theorem Ue{ln co nm:Int}{tx:lU}{k r:Nd}{acc:List (lU×Mk)}{args:Ty}(d:AD acc tx=none)(h:Dr ds m k=.ok args):C2 ds m out nums (.cons 42 ln co tx nm k r) acc=C2 ds m out nums r ((tx,⟨args,out,nums⟩)::acc):=by
 show (if (AD acc tx).isSome then .error (ln,co,11) else match Dr ds m k with
     |.error x=>.error x
     |.ok args=>C2 ds m out nums r ((tx,⟨args,out,nums⟩)::acc):RI _)=_
 rw[d,h];rfl
theorem Sv(G:1≤n)(D:n≤3)(hd:AD ds [116]=some (n:Int))(hm:∀j,j<n→∃t,AD m (vN v j)=some t):∀(cs:List (List DB))(i:Nat)(x:Nd)(acc:List (lU×Mk)),x.er=DN c v n i cs→i+cs.length≤9→(∀l∈cs,∀o∈l,o.2<n)→(∀j,i≤j→j<10→AD acc [c,dg j]=none) →
   ∃d,C2 ds m out nums x acc=.ok d∧AD d [c,57]=some ⟨.nil,out,nums⟩
 | [],i,x,acc,h,J,_,F=>by
   obtain⟨ln,co,O,r',rfl,K,L⟩:=C6 (show x.er=.cons 42 0 0 [c,57] 0 .nil .nil from h);obtain rfl:=EB K;obtain rfl:=EB L;refine⟨_,Ue (F 9 (by simpa using J) dC) C,?_⟩;simp[AD]
 |l::r,i,x,acc,h,J,Q,F=>by
   simp only[List.length_cons] at J;obtain⟨ln,co,O,r',rfl,K,L⟩:=C6 (show x.er=.cons 42 0 0 [c,dg i] 0 (GH v n l) (DN c v n (i+1) r) from h);obtain⟨y,U⟩:=dO G D hd hm l O K (Q l (.head _));rw[Ue (F i (Nat.le_refl _) (by omega)) U];refine Sv G D hd hm r (i+1) r' _ L oM (λl Y=>Q l (.tail _ Y)) λj G D=>?_;show (if [c,dg i]==[c,dg j] then _ else AD acc [c,dg j])=none;rw[if_neg (by rw[cn_ne c (by omega) D (by omega)];decide)];exact F j oM D
theorem IY{ln co:Int}:∀(cs:List (List DB))(i:Nat)(x:Nd)(a:Int)(self:Ty)(nums:List Int),x.er=DN c v n i cs→CZ ln co x a m self nums=.ok (a,m,self,nums)
 | [],i,x,a,self,nums,h=>by
   obtain⟨l,q,D,r',rfl,F,d⟩:=C6 (show x.er=.cons 42 0 0 [c,57] 0 .nil .nil from h);obtain rfl:=EB d;rfl
 |l::r,i,x,a,self,nums,h=>by
   obtain⟨l,q,D,r',rfl,F,d⟩:=C6 (show x.er=.cons 42 0 0 [c,dg i] 0 (GH v n l) (DN c v n (i+1) r) from h);exact IY r (i+1) r' a self nums d
end
theorem I8{ln co l q nm:Int}{tx:lU}{k r:Nd}{v:Int}{m:List (lU×T1)}{self:Ty}{nums:List Int}(h:AD m tx=none):CZ ln co (.cons 31 l q tx nm k r) v m self nums=CZ ln co r (v-1) ((tx,.var (v-1))::m) (self.snoc (.var (v-1))) (nums++[v-1]):=by
 show (if (AD m tx).isSome then .error (ln,co,11) else CZ ln co r (v-1) ((tx,.var (v-1))::m) (self.snoc (.var (v-1))) (nums++[v-1]):RI _)=_;rw[h];rfl
def GJ(n:Nat):Ty×List Int:=match n with
 |1=>(.var (-2) .nil,[-2])
 |2=>(.var (-2) (.var (-3) .nil),[-2,-3])
 |_=>(.var (-2) (.var (-3) (.var (-4) .nil)),[-2,-3,-4])
def gJ(v:lU)(n:Nat):List (lU×T1):=match n with
 |1=>[(vN v 0,.var (-2))]
 |2=>[(vN v 1,.var (-3)),(vN v 0,.var (-2))]
 |_=>[(vN v 2,.var (-4)),(vN v 1,.var (-3)),(vN v 0,.var (-2))]
section
variable{c:UInt8}{v:lU}{n:Nat}{cs:List (List DB)}
theorem uB(U:1≤n)(Y:n≤3){x:Nd}(h:x.er=(Uz v n).app (DN c v n 0 cs)){ln co:Int}:∃y,y.er=DN c v n 0 cs∧CZ ln co x (-1) [] .nil []=.ok (-1-n,gJ v n,GJ n)∧∀ds m out nums acc,C2 ds m out nums x acc=C2 ds m out nums y acc:=by
 have D:=L5 (v:=v) (i:=0) (j:=1) dC dC dC;have G:=L5 (v:=v) (i:=0) (j:=2) dC dC dC;have J:=L5 (v:=v) (i:=1) (j:=2) dC dC dC;rcases (show n=1∨n=2∨n=3 by omega) with rfl|rfl|rfl
 · obtain⟨K,L,k1,y,rfl,_,d⟩:=C6 (show x.er=.cons 31 0 0 (vN v 0) 0 .nil (DN c v 1 0 cs) from h)
   refine⟨y,d,?_,λ_ _ _ _ _=>C⟩;rw[I8 C,IY cs 0 y _ _ _ d];rfl
 · obtain⟨K,L,k1,Q,rfl,_,d⟩:=C6 (show x.er=.cons 31 0 0 (vN v 0) 0 .nil (.cons 31 0 0 (vN v 1) 0 .nil (DN c v 2 0 cs)) from h)
   obtain⟨l2,c2,k2,y,rfl,_,F⟩:=C6 d;refine⟨y,F,?_,λ_ _ _ _ _=>C⟩;rw[I8 C,I8 (by simp only[AD,D];rfl),IY cs 0 y _ _ _ F];rfl
 · obtain⟨K,L,k1,Q,rfl,_,d⟩:=C6 (show x.er=.cons 31 0 0 (vN v 0) 0 .nil (.cons 31 0 0 (vN v 1) 0 .nil (.cons 31 0 0 (vN v 2) 0 .nil (DN c v 3 0 cs))) from h)
   obtain⟨l2,c2,k2,y2,rfl,_,F⟩:=C6 d;obtain⟨Z,c3,k3,y,rfl,_,O⟩:=C6 F;refine⟨y,O,?_,λ_ _ _ _ _=>C⟩;rw[I8 C,I8 (by simp only[AD,D];rfl),I8 (by simp only[AD,J,G];rfl),IY cs 0 y _ _ _ O];rfl
theorem bD(F:1≤n)(G:n≤3)(j:Nat)(J:j<n):∃t,AD (gJ v n) (vN v j)=some t:=by
 have d:=L5 (v:=v) (i:=1) (j:=0) dC dC dC;have h:=L5 (v:=v) (i:=2) (j:=0) dC dC dC;have D:=L5 (v:=v) (i:=2) (j:=1) dC dC dC;rcases (show (n=1∧j=0)∨(n=2∧j=0)∨(n=2∧j=1)∨(n=3∧j=0)∨(n=3∧j=1)∨(n=3∧j=2) by omega) with ⟨rfl,rfl⟩|⟨rfl,rfl⟩|⟨rfl,rfl⟩|⟨rfl,rfl⟩|⟨rfl,rfl⟩|⟨rfl,rfl⟩ <;> simp[gJ,AD,d,h,D]
theorem YW(d:GC c)(j:Nat)(h:j<10):AD TU [c,dg j]=none:=by
 rcases (show j=0∨j=1∨j=2∨j=3∨j=4∨j=5∨j=6∨j=7∨j=8∨j=9 by omega) with rfl|rfl|rfl|rfl|rfl|rfl|rfl|rfl|rfl|rfl <;> rcases d with rfl|rfl <;> kernel_rfl
theorem nP(G:GC c)(d:1≤n)(D:n≤3)(Y:cs.length≤4)(J:∀l∈cs,∀o∈l,o.2<n){x:Nd}(h:x.er=(Uz v n).app (DN c v n 0 cs))(ln co:Int):∃X,FJ Wx ln co [116] x=.ok ⟨[],0,X,[([116],(n:Int))],[],-1-n⟩∧AD X [c,57]=some ⟨.nil,.con [116] (GJ n).1,(GJ n).2⟩:=by
 obtain⟨y,K,L,F⟩:=uB d D h (ln:=ln) (co:=co);have hlen:(((GJ n).2.length:Nat):Int)=n:=by rcases (show n=1∨n=2∨n=3 by omega) with rfl|rfl|rfl <;> rfl
 obtain⟨X,O,Q⟩:=Sv (ds:=[([116],(n:Int))]) (m:=gJ v n) (out:=.con [116] (GJ n).1) (nums:=(GJ n).2) d D (by simp[AD]) (bD d D) cs 0 y TU K oM J (λj _ U=>YW G j U);refine⟨X,?_,Q⟩
 have e:FJ Wx ln co [116] x=(match CZ ln co x (-1) [] .nil [] with
   |.error x=>.error x
   |.ok (v,m,self,nums)=>match C2 [([116],(nums.length:Int))] m (.con [116] self) nums x TU with
     |.error x=>.error x
     |.ok cons=>.ok ⟨[],0,cons,[([116],(nums.length:Int))],[],v⟩:RI CS):=kR
 rw[e,L]
 show (match C2 [([116],((GJ n).2.length:Int))] (gJ v n) (.con [116] (GJ n).1) (GJ n).2 x TU with
     |.error x=>.error x
     |.ok cons=>.ok ⟨[],0,cons,[([116],((GJ n).2.length:Int))],[],-1-n⟩:RI CS)=_
 rw[hlen,F,O]
theorem lO(F:1≤n)(G:n≤3){X:List (lU×Mk)}(J:AD X [c,57]=some ⟨.nil,.con [116] (GJ n).1,(GJ n).2⟩){ln co l q l2 q2 m2 m:Int}{k:Nd}(d:k.er=yH n):∃s,Ds ⟨[],0,X,[([116],(n:Int))],[],-1-n⟩ H0 43 ln co [114] (.cons 32 l q [116] m k (.cons 6 l2 q2 [c,57] m2 .nil .nil))=.ok (some ([114],.con BP (.con [116] (M5 n) .nil)),⟨[114],.con BP (.con [116] (M5 n) .nil),[]⟩::H0,s)∧∃f,CX s.sol (.con BP (.con [116] (M5 n) .nil))=some f:=by
 rw[pV F G] at d;have K:k.len=n:=by rw[← Ub,d,QW]
 have D:Dr [([116],(n:Int))] [] (.cons 32 l q [116] m k .nil)=.ok (.con [116] (M5 n) .nil):=by
   refine K8 ?_ (aP n k d) C;rw[show Cq EO ([32]++[116]++[32])=false by kernel_rfl,show (([116]:lU)==DA)=false by decide,show Cq IU ([32]++[116]++[32])=false by kernel_rfl,K];simp[AD]
 have e:∀s:CS,s=⟨[],0,X,[([116],(n:Int))],[],-1-n⟩→Ds s H0 43 ln co [114] (.cons 32 l q [116] m k (.cons 6 l2 q2 [c,57] m2 .nil .nil))=(match Dr [([116],(n:Int))] [] (.cons 32 l q [116] m k .nil) with
     |.error x=>.error x
     |.ok w=>match Gq ⟨[],0,X,[([116],(n:Int))],[[114]],-1-n⟩ [c,57] 0 l2 q2 with
       |.error x=>.error x
       |.ok (args,out,s1)=>match F8 (Ca 0) H0 s1 args .nil with
         |.error x=>.error x
         |.ok s2=>match Fv s2 out l2 q2 with
           |.error x=>.error x
           |.ok _=>match EA s2 w.hd out ln co with
             |.error x=>.error x
             |.ok L=>.ok (some ([114],.con BP w),⟨[114],.con BP w,[]⟩::H0,L):RI (Option (lU×T1)×Ba×CS)):=by
   rintro s rfl
   show (match Dr [([116],(n:Int))] [] (.cons 32 l q [116] m k .nil) with
     |.error x=>.error x
     |.ok w=>match Ca 1 ⟨[],0,X,[([116],(n:Int))],[[114]],-1-n⟩ H0 6 l2 q2 [c,57] m2 .nil with
       |.error x=>.error x
       |.ok (t2,s1)=>match EA s1 w.hd t2 ln co with
         |.error x=>.error x
         |.ok s2=>.ok (some ([114],.con BP w),⟨[114],.con BP w,[]⟩::H0,s2):RI (Option (lU×T1)×Ba×CS))=_
   rw[D]
   show (match (match (match Gq ⟨[],0,X,[([116],(n:Int))],[[114]],-1-n⟩ [c,57] 0 l2 q2 with
       |.error x=>.error x
       |.ok (args,out,s1)=>match F8 (Ca 0) H0 s1 args .nil with
         |.error x=>.error x
         |.ok s2=>.ok (out,s2):RI (T1×CS)) with
       |.error x=>.error x
       |.ok (t,s1)=>match Fv s1 t l2 q2 with
         |.error x=>.error x
         |.ok _=>.ok (t,s1):RI (T1×CS)) with
       |.error x=>.error x
       |.ok (t2,s1)=>match EA s1 (Ty.con [116] (M5 n) .nil).hd t2 ln co with
         |.error x=>.error x
         |.ok s2=>.ok (some ([114],.con BP (.con [116] (M5 n) .nil)),⟨[114],.con BP (.con [116] (M5 n) .nil),[]⟩::H0,s2):RI (Option (lU×T1)×Ba×CS))=_
   cases Gq ⟨[],0,X,[([116],(n:Int))],[[114]],-1-n⟩ [c,57] 0 l2 q2 with
   |error x=>rfl
   |ok a =>
     obtain⟨args,out,s1⟩:=a;simp only[]
     cases F8 (Ca 0) H0 s1 args .nil with
     |error x=>rfl
     |ok s2 =>
       simp only[]
       cases Fv s2 out l2 q2 with
       |error x=>rfl
       |ok f =>
         simp only[]
 rw[e _ C,D]
 have h:Gq ⟨[],0,X,[([116],(n:Int))],[[114]],-1-n⟩ [c,57] 0 l2 q2=.ok (.nil,Cu (.con [116] (GJ n).1) (GJ n).2 (Bn (GJ n).2 ⟨[],0,X,[([116],(n:Int))],[[114]],-1-n⟩).1,(Bn (GJ n).2 ⟨[],0,X,[([116],(n:Int))],[[114]],-1-n⟩).2):=by
   unfold Gq;rw[show (CS.cons ⟨[],0,X,[([116],(n:Int))],[[114]],-1-n⟩)=X from C,J];rfl
 rw[h];rcases (show n=1∨n=2∨n=3 by omega) with rfl|rfl|rfl
 · exact⟨⟨[(1,.con Cc .nil)],1,X,[([116],1)],[[114]],-2⟩,kR,.con BP (.con [116] (M5 1) .nil),kR⟩
 · exact⟨⟨[(2,.con Cc .nil),(1,.con Cc .nil)],2,X,[([116],2)],[[114]],-3⟩,kR,.con BP (.con [116] (M5 2) .nil),kR⟩
 · exact⟨⟨[(3,.con Cc .nil),(2,.con Cc .nil),(1,.con Cc .nil)],3,X,[([116],3)],[[114]],-4⟩,kR,.con BP (.con [116] (M5 3) .nil),kR⟩
theorem Yv(O:GC c)(G:1≤n)(J:n≤3)(Q:cs.length≤4)(U:∀l∈cs,∀o∈l,o.2<n){x:Nd}(h:x.er=Ro n cs v c):∃out,C3 x=.ok out:=by
 obtain⟨ln,co,k,r,rfl,Y,Z⟩:=C6 h;obtain⟨D,F,k2,r2,rfl,e3,e4⟩:=C6 Z;obtain rfl:=EB e4;obtain⟨l,q,k3,r3,rfl,e5,e6⟩:=C6 e3;obtain⟨K,L,k4,r4,rfl,e7,e8⟩:=C6 e6;obtain rfl:=EB e7;obtain rfl:=EB e8;obtain⟨X,hX,hl⟩:=nP O G J Q U Y ln co;obtain⟨s,hs,f,hf⟩:=lO G J hl e5 (ln:=D) (co:=F) (l:=l) (q:=q) (l2:=K) (q2:=L) (m2:=0) (m:=0);refine⟨[([114],NP f)],?_⟩
 have ht:DQ Wx H0 (.cons 41 ln co [116] 0 k (.cons 43 D F [114] 0 (.cons 32 l q [116] 0 k3 (.cons 6 K L [c,57] 0 .nil .nil)) .nil)) []=.ok ([([114],.con BP (.con [116] (M5 n) .nil))],s):=by
   have d:Ds Wx H0 41 ln co [116] k=.ok (none,H0,⟨[],0,X,[([116],(n:Int))],[],-1-n⟩):=by
     show (match FJ Wx ln co [116] k with
       |.error x=>.error x
       |.ok s1=>.ok (none,H0,s1):RI _)=_
     rw[hX]
   rw[DQ,d];simp only[];rw[DQ,hs];rfl
 unfold C3;rw[ht];simp only[Ku,Fv,hf]
end
theorem LP(dn:lU→Bool)(vars:List lU):∀(x:Nd)(s:GP),allS dn vars x s=allS dn vars x.er s
 |.nil,s=>rfl
 |.cons op ln co tx nm k r,s=>by
   have d:=LP dn vars k;have h:=LP dn vars r;simp only[Nd.er,allS,← Ub k,d,h]
theorem W6(dn:lU→Bool)(vars:List lU):∀(x:Nd)(s:GP),Ed dn vars x s=Ed dn vars x.er s
 |.nil,s=>rfl
 |.cons op ln co tx nm k r,s=>by
   have d:=W6 dn vars r;simp only[Nd.er,Ed,LP dn vars k,d]
def Mc(j:Nat):lU:=[39,UInt8.ofNat (97+j)]
def E0:Nat→lU
 |0=>[]
 |n+1=>E0 n++32::Mc n
def LY(n:Nat):DB→lU
 |(0,_)=>32::Cc
 |(1,_)=>[32,40,116]++E0 n++[41]
 |(2,j)=>32::Mc j
 |(3,_)=>[32,40]++Ep++32::Cc++32::Mc 0++[41]
 |(_,_)=>32::I4
def K6(n:Nat)(l:List DB):lU:=l.flatMap (LY n)
def U0(c:UInt8)(n:Nat):Nat→List (List DB)→lU
 |_,[]=>[c,57]
 |i,l::r=>[c,dg i]++K6 n l++44::U0 c n (i+1) r
def D6(n:Nat)(cs:List (List DB))(c:UInt8):lU:=[40,116]++Dx n++[41,124,116]++E0 n++61::U0 c n 0 cs
def EZ(v:lU):Nat→List lU
 |1=>[vN v 0]
 |2=>[vN v 0,vN v 1]
 |_=>[vN v 0,vN v 1,vN v 2]
section
variable{v:lU}{n:Nat}{c:UInt8}
theorem yM(h1:1≤n)(h2:n≤3)(j:Nat)(F:j<n):Ji (EZ v n) (vN v j)=(j:Int):=by
 have d:=L5 (v:=v) (i:=0) (j:=1) dC dC dC;have h:=L5 (v:=v) (i:=0) (j:=2) dC dC dC;have D:=L5 (v:=v) (i:=1) (j:=2) dC dC dC;rcases (show (n=1∧j=0)∨(n=2∧j=0)∨(n=2∧j=1)∨(n=3∧j=0)∨(n=3∧j=1)∨(n=3∧j=2) by omega) with ⟨rfl,rfl⟩|⟨rfl,rfl⟩|⟨rfl,rfl⟩|⟨rfl,rfl⟩|⟨rfl,rfl⟩|⟨rfl,rfl⟩ <;> simp[EZ,Ji,d,h,D]
theorem oR(h1:1≤n)(h2:n≤3)(j:Nat)(d:j<n):YL (EZ v n) (vN v j)=Mc j:=by
 unfold YL;rw[yM h1 h2 j d];rcases (show j=0∨j=1∨j=2 by omega) with rfl|rfl|rfl <;> kernel_rfl
structure NS(dn:lU→Bool):Prop where
 i:dn Cc=false
 s:dn I4=false
 t:dn Ep=false
abbrev sT:GP:=⟨[[116]],true⟩
variable {dn:lU→Bool}
theorem Wu(h:NS dn)(s:GP):B1 dn Cc s=s:=by
 unfold B1;rw[h.i,show (Cc==DA)=false by decide,show (Cc==Ig)=false by decide];cases s;simp
theorem uS(h:NS dn)(s:GP):B1 dn I4 s=s:=by
 unfold B1;rw[h.s,show (I4==DA)=false by decide,show (I4==Ig)=false by decide];cases s;simp
theorem xD(h:NS dn)(s:GP):B1 dn Ep s=s:=by
 unfold B1;rw[h.t,show (Ep==DA)=false by decide,show (Ep==Ig)=false by decide];cases s;simp
theorem xL(dn:lU→Bool):B1 dn [116] sT=sT:=by
 unfold B1;rw[show (([116]:lU)==DA)=false by decide,show (([116]:lU)==Ig)=false by decide];simp
theorem TB(h:NS dn)(vars:List lU)(s:GP):∀(k:Nat)(z:lU),(z++(allS dn vars (oV k) s).1,(allS dn vars (oV k) s).2)=(z++(List.replicate k (32::Cc)).flatten,s)
 |0,z=>rfl
 |k+1,z=>by
   have d:=TB h vars s k [];simp only[List.nil_append,Prod.mk.injEq] at d;simp only[oV,allS,show ((32:Int)==31)=false from C,Bool.false_eq_true,if_false,Nd.len,if_true,Wu h,d.1,d.2,List.replicate_succ,List.flatten_cons];rfl
theorem iD(h1:1≤n)(h2:n≤3)(dn:lU→Bool)(s:GP):allS dn (EZ v n) (Uz v n) s=(E0 n,s):=by
 have a:∀j,j<n→∀ln co nm k r,allS dn (EZ v n) (.cons 31 ln co (vN v j) nm k r) s=(32::(Mc j++(allS dn (EZ v n) r s).1),(allS dn (EZ v n) r s).2):=λj d ln co nm k r=>by
   have:=oR (v:=v) h1 h2 j d;simp only[allS,show ((31:Int)==31)=true from C,if_true,this]
 rcases (show n=1∨n=2∨n=3 by omega) with rfl|rfl|rfl
 · show allS dn (EZ v 1) (.cons 31 0 0 (vN v 0) 0 .nil .nil) s=_
   rw[a 0 (by decide)];rfl
 · show allS dn (EZ v 2) (.cons 31 0 0 (vN v 0) 0 .nil (.cons 31 0 0 (vN v 1) 0 .nil .nil)) s=_
   rw[a 0 (by decide),a 1 (by decide)];rfl
 · show allS dn (EZ v 3) (.cons 31 0 0 (vN v 0) 0 .nil (.cons 31 0 0 (vN v 1) 0 .nil (.cons 31 0 0 (vN v 2) 0 .nil .nil))) s=_
   rw[a 0 (by decide),a 1 (by decide),a 2 (by decide)];rfl
theorem Xz:∀n,(Uz v n).len=n
 |0=>rfl
 |n+1=>by
   have:∀a b:Nd,(a.app b).len=a.len+b.len:=λa b=>by
     induction a with
     |nil=>exact (Nat.zero_add _).symm
     |cons _ _ _ _ _ _ r _ d=>show (r.app b).len+1=_;rw[d];show _=r.len+1+b.len;omega
   rw[Uz,this,Xz n];rfl
theorem Xw(h1:1≤n)(h2:n≤3)(h:NS dn):∀l:List DB,(∀o∈l,o.2<n)→allS dn (EZ v n) (GH v n l) sT=(K6 n l,sT)
 | [],_=>rfl
 |(o,j)::l,K=>by
   have O:j<n:=K _ (.head _);have d:=Xw h1 h2 h l (λo h=>K o (.tail _ h))
   have G:∀{tx:lU}{k:Nd}{a:lU}{r:Nd},k.len=0→B1 dn tx sT=sT→allS dn (EZ v n) r sT=(a,sT)→allS dn (EZ v n) (.cons 32 0 0 tx 0 k r) sT=(32::(tx++a),sT):=λ{tx k a r} D F J=>by
     simp only[allS,show ((32:Int)==31)=false from C,Bool.false_eq_true,if_false,D,if_true,F,J]
   have L:∀{tx:lU}{k:Nd}{a b:lU}{r:Nd},k.len≠0→B1 dn tx sT=sT→allS dn (EZ v n) k sT=(b,sT)→allS dn (EZ v n) r sT=(a,sT)→allS dn (EZ v n) (.cons 32 0 0 tx 0 k r) sT=(32::([40]++tx++b++[41]++a),sT):=λ{tx k a b r} D F J e4=>by
     simp only[allS,show ((32:Int)==31)=false from C,Bool.false_eq_true,if_false,D,F,J,e4]
   have hz:∀{i:Nat}{a:lU}{r:Nd},i<n→allS dn (EZ v n) r sT=(a,sT)→allS dn (EZ v n) (.cons 31 0 0 (vN v i) 0 .nil r) sT=(32::(Mc i++a),sT):=λ{i a r} D F=>by
     simp only[allS,show ((31:Int)==31)=true from C,if_true,oR (v:=v) h1 h2 i D,F]
   match o with
   |0=>exact (G (tx:=Cc) C (Wu h _) d).trans (by simp[K6,LY])
   |1=>exact (L (tx:=[116]) (k:=Uz v n) (by rw[Xz];omega) (xL dn) (iD h1 h2 dn sT) d).trans (by simp[K6,LY])
   |2=>exact (hz O d).trans (by simp[K6,LY])
   |3 =>
     refine (L (tx:=Ep) (k:=.cons 32 0 0 Cc 0 .nil (.cons 31 0 0 (vN v 0) 0 .nil .nil)) (by simp[Nd.len]) (xD h _) (G (tx:=Cc) C (Wu h _) (hz (a:=[]) oM C)) d).trans ?_;simp[K6,LY]
   |o+4=>exact (G (tx:=I4) C (uS h _) d).trans (by simp[K6,LY])
theorem fK(h1:1≤n)(h2:n≤3)(h:NS dn):∀(cs:List (List DB))(i:Nat),(∀l∈cs,∀o∈l,o.2<n)→∃q,Ed dn (EZ v n) (DN c v n i cs) sT=(q,sT)∧q≠[]∧FH q=U0 c n i cs
 | [],i,_=>⟨[[c,57]],by simp[DN,Ed,allS],by simp,C⟩
 |l::r,i,d=>by
   obtain⟨q,D,F,G⟩:=fK h1 h2 h r (i+1) (λl J=>d l (.tail _ J));have a:=Xw (v:=v) h1 h2 h l (d l (.head _));refine⟨([c,dg i]++K6 n l)::q,by simp only[DN,Ed,a,D],by simp,?_⟩
   cases q with
   |nil=>exact absurd C F
   |cons b q=>rw[FH,G,U0]
theorem Qh:∀k,(List.replicate k (32::Cc)).flatten=Dx k
 |0=>rfl
 |k+1=>by
   have:List.replicate (k+1) (32::Cc)=List.replicate k (32::Cc)++[32::Cc]:=List.replicate_succ';rw[this,List.flatten_append,Qh k];simp[Dx]
theorem wZ(h1:1≤n)(h2:n≤3){cs:List (List DB)}{x:Nd}(h:x.er=(Uz v n).app (DN c v n 0 cs)):∃a y,Ct x=(EZ v n,a,y)∧a.er=Uz v n∧y.er=DN c v n 0 cs:=by
 have d:∀(y:Nd),y.er=DN c v n 0 cs→Ct y=([],.nil,y):=λy d=>by
   cases cs with
   |nil=>obtain⟨_,_,_,_,rfl,_,_⟩:=C6 (show y.er=.cons 42 0 0 [c,57] 0 .nil .nil from d);rfl
   |cons l r=>obtain⟨_,_,_,_,rfl,_,_⟩:=C6 (show y.er=.cons 42 0 0 [c,dg 0] 0 (GH v n l) (DN c v n 1 r) from d);rfl
 have D:∀{l q nm:Int}{tx:lU}{k r a y:Nd}{vs:List lU},Ct r=(vs,a,y)→Ct (.cons 31 l q tx nm k r)=(tx::vs,.cons 31 l q tx nm k a,y):=λ{l q nm tx k r a y vs} e=>by
   simp only[Ct,show ((31:Int)==31)=true from C,if_true,e]
 rcases (show n=1∨n=2∨n=3 by omega) with rfl|rfl|rfl
 · obtain⟨J,K,k1,y,rfl,d1,F⟩:=C6 (show x.er=.cons 31 0 0 (vN v 0) 0 .nil (DN c v 1 0 cs) from h)
   obtain rfl:=EB d1;exact⟨_,y,D (d y F),C,F⟩
 · obtain⟨J,K,k1,O,rfl,d1,F⟩:=C6 (show x.er=.cons 31 0 0 (vN v 0) 0 .nil (.cons 31 0 0 (vN v 1) 0 .nil (DN c v 2 0 cs)) from h)
   obtain⟨l2,c2,k2,y,rfl,d2,G⟩:=C6 F;obtain rfl:=EB d1;obtain rfl:=EB d2;exact⟨_,y,D (D (d y G)),C,G⟩
 · obtain⟨J,K,k1,O,rfl,d1,F⟩:=C6 (show x.er=.cons 31 0 0 (vN v 0) 0 .nil (.cons 31 0 0 (vN v 1) 0 .nil (.cons 31 0 0 (vN v 2) 0 .nil (DN c v 3 0 cs))) from h)
   obtain⟨l2,c2,k2,y2,rfl,d2,G⟩:=C6 F;obtain⟨Q,c3,k3,y,rfl,d3,L⟩:=C6 G;obtain rfl:=EB d1;obtain rfl:=EB d2;obtain rfl:=EB d3;exact⟨_,y,D (D (D (d y L))),C,L⟩
theorem R6:∀n,(E0 n).length=3*n
 |0=>rfl
 |n+1=>by rw[E0,List.length_append,R6 n];simp[Mc];omega
theorem L8:∀n,(Dx n).length=4*n
 |0=>rfl
 |n+1=>by rw[Dx,List.length_append,L8 n];simp[Cc];omega
theorem kM(h2:n≤3)(o:DB):(LY n o).length≤15:=by
 obtain⟨k,j⟩:=o
 match k with
 |0=>simp[LY,Cc]
 |1=>simp only[LY,List.length_append,R6,List.length_cons,List.length_nil];omega
 |2=>simp[LY,Mc]
 |3=>simp[LY,Ep,Cc,Mc]
 |k+4=>simp[LY,I4]
theorem W4(h2:n≤3):∀l:List DB,(K6 n l).length≤15*l.length
 | []=>Nat.le_refl _
 |o::l=>by
   have:=kM h2 o;have d:=W4 h2 l;simp only[K6,List.flatMap_cons,List.length_append,List.length_cons] at d ⊢;omega
theorem cU(h2:n≤3):∀(cs:List (List DB))(i:Nat),(∀l∈cs,l.length≤4)→(U0 c n i cs).length≤2+63*cs.length
 | [],i,_=>Nat.le_refl _
 |l::r,i,h=>by
   have D:=cU h2 r (i+1) (λl d=>h l (.tail _ d));have:=W4 h2 l;have:=h l (.head _);simp only[U0,List.length_append,List.length_cons,List.length_nil];omega
theorem aL(h2:n≤3){cs:List (List DB)}(h4:cs.length≤4)(h:∀l∈cs,l.length≤4):(D6 n cs c).length≤1000:=by
 have:=cU (c:=c) h2 cs 0 h;simp only[D6,List.length_append,List.length_cons,List.length_nil,L8,R6];omega
theorem dX(h1:1≤n)(h2:n≤3){cs:List (List DB)}(h4:cs.length≤4)(O:∀l∈cs,l.length≤4)(Q:∀l∈cs,∀o∈l,o.2<n){x:Nd}(h:x.er=Ro n cs v c):ZA x=.ok [([114],D6 n cs c)]:=by
 obtain⟨ln,co,k,r,rfl,U,Y⟩:=C6 h;obtain⟨d,D,k2,r2,rfl,Z,e4⟩:=C6 Y;obtain rfl:=EB e4;obtain⟨l,q,k3,r3,rfl,F,e6⟩:=C6 Z;rw[pV h1 h2] at F;obtain⟨a,y,hh,ha,hy⟩:=wZ h1 h2 U;have G:C1 (.cons 41 ln co [116] 0 k (.cons 43 d D [114] 0 (.cons 32 l q [116] 0 k3 r3) .nil))=[([116],k)]:=rfl;have L:NS (Be [([116],k)]):=⟨C,C,C⟩;have J:k3.len≠0:=by rw[← Ub,F,QW];omega
 have ht:CR (Be [([116],k)]) [] 32 [116] k3 ⟨[],true⟩=([40,116]++Dx n++[41],sT):=by
   have hm:B1 (Be [([116],k)]) [116] ⟨[],true⟩=sT:=rfl;have K:=TB L [] sT n [];simp only[List.nil_append,Prod.mk.injEq,Qh] at K;unfold CR;rw[if_neg (by decide),if_neg J,hm,LP,F,K.1,K.2];rfl
 obtain⟨qs,f1,f2,f3⟩:=fK (v:=v) (c:=c) h1 h2 L cs 0 Q
 have hd:ET (Be [([116],k)]) [116] k sT=([124,116]++E0 n++61::U0 c n 0 cs,sT):=by
   unfold ET;rw[hh];simp only[];rw[W6,hy,f1,LP,ha,iD h1 h2,f3];simp
 have hr:Kx [([116],k)] 32 [116] k3=(D6 n cs c,sT):=by
   unfold Kx;rw[ht]
   have s1:∀(m i:Nat)(t:lU),HN [([116],k)] (m+1) (i+1) t sT=(t,sT):=λm i t=>by
     unfold HN;have:sT.met[i+1]?=none:=by simp
     rw[this]
   have s0:HN [([116],k)] 2 0 ([40,116]++Dx n++[41]) sT=HN [([116],k)] 1 1 ([40,116]++Dx n++[41]++(ET (Be [([116],k)]) [116] k sT).1) (ET (Be [([116],k)]) [116] k sT).2:=rfl;show HN [([116],k)] 2 0 _ _=_;rw[s0,hd,s1];simp[D6]
 unfold ZA;rw[G];show (let w:=Kx [([116],k)] 32 [116] k3;if !w.2.keeps then .error (l,q,17) else if w.1.length>1000 then .error (l,q,4) else Re [([116],k)] .nil ([]++[([114],w.1)]):Except Er _)=_;rw[hr];show (if (D6 n cs c).length>1000 then _ else Except.ok [([114],D6 n cs c)])=_;rw[if_neg (by have:=aL (c:=c) h2 h4 O;omega)]
end
structure PF(p:DB→Prop)(W:DB→lU):Prop where
 hd:∀o,∃q,W o=32::q
 pf:∀o o' r r',p o→p o'→W o++r=W o'++r'→o=o'∧r=r'
theorem Oa{p:DB→Prop}{W:DB→lU}(h:PF p W){e:UInt8}(he:e≠32):∀(l D:List DB)(r r':lU),(∀o∈l,p o)→(∀o∈D,p o)→l.flatMap W++e::r=D.flatMap W++e::r'→l=D∧r=r'
 | [],[],r,r',_,_,d=>by simpa using d
 | [],o::l,r,r',_,_,d=>by
   exfalso;obtain⟨q,F⟩:=h.hd o;rw[List.flatMap_cons,F] at d;simp only[List.flatMap_nil,List.nil_append,List.cons_append,List.cons.injEq] at d;exact he d.1
 |o::l,[],r,r',_,_,d=>by
   exfalso;obtain⟨q,F⟩:=h.hd o;rw[List.flatMap_cons,F] at d;simp only[List.flatMap_nil,List.nil_append,List.cons_append,List.cons.injEq] at d;exact he d.1.symm
 |o::l,o'::D,r,r',h1,h2,d=>by
   simp only[List.flatMap_cons,List.append_assoc] at d;obtain⟨rfl,J⟩:=h.pf o o' _ _ (h1 _ (.head _)) (h2 _ (.head _)) d;obtain⟨rfl,h4⟩:=Oa h he l D r r' (λo G=>h1 o (.tail _ G)) (λo G=>h2 o (.tail _ G)) J;exact⟨C,h4⟩
def yA(n:Nat)(o:DB):Prop:=o.1<5∧o.2<n∧(o.1≠2→o.2=0)
theorem pX(v:lU):∀m,∃q,B4 v (m+1)=32::39::q
 |0=>⟨_,C⟩
 |m+1=>by obtain⟨q,d⟩:=pX v m;exact⟨_,by rw[B4,d];rfl⟩
theorem pY:∀m,∃q,E0 (m+1)=32::39::q
 |0=>⟨_,C⟩
 |m+1=>by obtain⟨q,d⟩:=pY m;exact⟨_,by rw[E0,d];rfl⟩
theorem pG{n:Nat}{NB:lU}{L:Nat→lU}{W:DB→lU}(O:∃q,NB=32::q)(Q:∀i j r r',i<n→j<n→L i++r=L j++r'→i=j∧r=r')(D:∀i,∃q,L i=39::q)(G:∀j,W (0,j)=32::Cc)(h1:∀j,W (1,j)=[32,40,116]++NB++[41])(h2:∀j,W (2,j)=32::L j)(J:∀j,W (3,j)=[32,40]++Ep++32::Cc++32::L 0++[41])(h4:∀k j,W (k+4,j)=32::I4):PF (yA n) W:=by
 obtain⟨nq,rfl⟩:=O;constructor
 · rintro⟨k,j⟩
   match k with
   |0=>exact⟨_,G j⟩
   |1=>exact⟨_,h1 j⟩
   |2=>exact⟨_,h2 j⟩
   |3=>exact⟨_,J j⟩
   |k+4=>exact⟨_,h4 k j⟩
 · rintro⟨k,j⟩ ⟨d,K⟩ r r' ⟨a1,a2,a3⟩ ⟨b1,b2,b3⟩ h
   dsimp only at a1 a2 a3 b1 b2 b3;obtain⟨q1,U⟩:=D j;obtain⟨q2,Y⟩:=D K
   by_cases F:k=2∧d=2
   · obtain⟨rfl,rfl⟩:=F
     simp only[h2,List.cons_append,List.cons.injEq,true_and] at h;obtain⟨rfl,Z⟩:=Q j K r r' a2 b2 h;exact⟨C,Z⟩
   · rcases (show k=0∨k=1∨k=2∨k=3∨k=0+4 by omega) with rfl|rfl|rfl|rfl|rfl <;>
     rcases (show d=0∨d=1∨d=2∨d=3∨d=0+4 by omega) with rfl|rfl|rfl|rfl|rfl <;>
     simp only[G,h1,h2,J,h4] at h <;>
     first
       |exact absurd ⟨rfl,rfl⟩ F
       |(exfalso;simp[Cc,I4,Ep,U,Y] at h;done)
       |(obtain rfl:=a3 dC;obtain rfl:=b3 dC;simp at h;exact⟨C,h⟩)
theorem sA(v:lU){n:Nat}(d:n≤3):∀i j r r',i<n→j<n→vN v i++r=vN v j++r'→i=j∧r=r':=λi j r r' D F h=>by
 simp only[vN,List.cons_append,List.append_assoc,List.cons.injEq,true_and] at h;have h:=List.append_cancel_left h;simp only[List.nil_append,List.cons.injEq] at h;refine⟨?_,h.2⟩;rcases Nat.lt_trichotomy i j with g|g|g
 · exact absurd h.1 (MH oM oM oM)
 · exact g
 · exact absurd h.1 (MH oM oM oM)
theorem lL{n:Nat}(d:n≤3):∀i j r r',i<n→j<n→Mc i++r=Mc j++r'→i=j∧r=r':=λi j r r' D F h=>by
 simp only[Mc,List.cons_append,List.nil_append,List.cons.injEq,true_and] at h;refine⟨?_,h.2⟩;have:=congrArg UInt8.toNat h.1;simp only[UInt8.toNat_ofNat'] at this;omega
theorem gG(v:lU){n:Nat}(h1:1≤n)(d:n≤3):PF (yA n) (HX v n):=by
 refine pG (NB:=B4 v n) (L:=vN v) ?_ (sA v d) (λ_=>⟨_,C⟩) (λ_=>C) (λ_=>C) (λ_=>C) (λ_=>C) (λ_ _=>C);obtain⟨m,rfl⟩:∃m,n=m+1:=⟨n-1,oM⟩;obtain⟨q,h⟩:=pX v m;exact⟨_,h⟩
theorem mS{n:Nat}(h1:1≤n)(d:n≤3):PF (yA n) (LY n):=by
 refine pG (NB:=E0 n) (L:=Mc) ?_ (lL d) (λ_=>⟨_,C⟩) (λ_=>C) (λ_=>C) (λ_=>C) (λ_=>C) (λ_ _=>C);obtain⟨m,rfl⟩:∃m,n=m+1:=⟨n-1,oM⟩;obtain⟨q,h⟩:=pY m;exact⟨_,h⟩
def sG(n:Nat)(cs:List (List DB)):Prop:=∀l∈cs,∀o∈l,yA n o
theorem PQ(c:UInt8)(v:lU){n:Nat}(h1:1≤n)(G:n≤3)(z:lU):∀(cs cs':List (List DB))(i:Nat),i+cs.length≤9→i+cs'.length≤9→sG n cs→sG n cs'→En c v n i cs++32::40::c::57::z=En c v n i cs'++32::40::c::57::z→cs=cs'
 | [],[],_,_,_,_,_,_=>rfl
 | [],l::r,i,_,d,_,_,h=>by
   exfalso;simp only[List.length_cons] at d;simp only[En,Rc,List.nil_append,List.cons_append,List.append_assoc,List.cons.injEq,true_and] at h;exact MH (i:=9) (j:=i) dC oM oM h.1
 |l::r,[],i,d,_,_,_,h=>by
   exfalso;simp only[List.length_cons] at d;simp only[En,Rc,List.nil_append,List.cons_append,List.append_assoc,List.cons.injEq,true_and] at h;exact MH (i:=9) (j:=i) dC oM oM h.1.symm
 |l::r,J::r',i,d,D,h,K,L=>by
   simp only[List.length_cons] at d D;simp only[En,Rc,List.cons_append,List.nil_append,List.append_assoc,List.cons.injEq,true_and] at L;obtain⟨rfl,O⟩:=Oa (gG v h1 G) (e:=41) dC l J _ _ (h l (.head _)) (K J (.head _)) L;obtain rfl:=PQ c v h1 G z r r' (i+1) oM oM (λl F=>h l (.tail _ F)) (λl F=>K l (.tail _ F)) O;rfl
theorem WI(c:UInt8){n:Nat}(h1:1≤n)(G:n≤3):∀(cs cs':List (List DB))(i:Nat),i+cs.length≤9→i+cs'.length≤9→sG n cs→sG n cs'→U0 c n i cs=U0 c n i cs'→cs=cs'
 | [],[],_,_,_,_,_,_=>rfl
 | [],l::r,i,_,d,_,_,h=>by
   exfalso;simp only[List.length_cons] at d;simp only[U0,List.nil_append,List.cons_append,List.append_assoc,List.cons.injEq,true_and] at h;exact MH (i:=9) (j:=i) dC oM oM h.1
 |l::r,[],i,d,_,_,_,h=>by
   exfalso;simp only[List.length_cons] at d;simp only[U0,List.nil_append,List.cons_append,List.append_assoc,List.cons.injEq,true_and] at h;exact MH (i:=9) (j:=i) dC oM oM h.1.symm
 |l::r,J::r',i,d,D,h,K,L=>by
   simp only[List.length_cons] at d D;simp only[U0,List.cons_append,List.nil_append,List.append_assoc,List.cons.injEq,true_and] at L;obtain⟨rfl,O⟩:=Oa (mS h1 G) (e:=44) dC l J _ _ (h l (.head _)) (K J (.head _)) L;obtain rfl:=WI c h1 G r r' (i+1) oM oM (λl F=>h l (.tail _ F)) (λl F=>K l (.tail _ F)) O;rfl
section
variable{n n':Nat}(h1:1≤n)(h2:n≤3)(h1':1≤n')(h2':n'≤3){cs cs':List (List DB)}(h4:cs.length≤4)(h4':cs'.length≤4)(hp:sG n cs)(hp':sG n' cs')
include h1 h2 h1' h2'
theorem mH{a b:lU}(h:B4 [97] n++41::a=B4 [97] n'++41::b):n=n'∧a=b:=by
 rcases (show n=1∨n=2∨n=3 by omega) with rfl|rfl|rfl <;> rcases (show n'=1∨n'=2∨n'=3 by omega) with rfl|rfl|rfl <;> simp[B4,vN] at h ⊢ <;> exact h
theorem uR{a b:lU}(h:Dx n++41::a=Dx n'++41::b):n=n'∧a=b:=by
 rcases (show n=1∨n=2∨n=3 by omega) with rfl|rfl|rfl <;> rcases (show n'=1∨n'=2∨n'=3 by omega) with rfl|rfl|rfl <;> simp[Dx,Cc] at h ⊢ <;> exact h
include h4 h4' hp hp'
theorem YE{c:UInt8}(h:Ec n cs [97] c=Ec n' cs' [97] c):n=n'∧cs=cs':=by
 simp only[Ec,List.cons_append,List.nil_append,List.append_assoc,List.cons.injEq,true_and] at h;obtain⟨rfl,h⟩:=mH h1 h2 h1' h2' h;exact⟨C,PQ c [97] h1 h2 [41,41] cs cs' 0 oM oM hp hp' h⟩
theorem iU{c:UInt8}(h:D6 n cs c=D6 n' cs' c):n=n'∧cs=cs':=by
 simp only[D6,List.cons_append,List.nil_append,List.append_assoc,List.cons.injEq,true_and] at h;obtain⟨rfl,h⟩:=uR h1 h2 h1' h2' h;simp only[List.cons.injEq,true_and] at h;have h:=List.append_cancel_left h;simp only[List.cons.injEq,true_and] at h;exact⟨C,WI c h1 h2 cs cs' 0 oM oM hp hp' h⟩
theorem bR(c:UInt8):(D6 n cs c==D6 n' cs' c)=(Ec n cs [97] c==Ec n' cs' [97] c):=by
 by_cases h:n=n'∧cs=cs'
 · obtain⟨rfl,rfl⟩:=h
   simp
 · rw[beq_false_of_ne λe=>h (iU h1 h2 h1' h2' h4 h4' hp hp' e),beq_false_of_ne λe=>h (YE h1 h2 h1' h2' h4 h4' hp hp' e)]
end
theorem kY(c d:UInt8)(n:Nat)(h:c≠d):∀(cs:List (List DB))(i:Nat),U0 c n i cs≠U0 d n i cs
 | [],i,e=>by simp[U0] at e;exact h e
 |l::r,i,e=>by simp[U0] at e;exact h e.1
theorem jI(n:Nat)(cs:List (List DB)):D6 n cs 67≠D6 n cs 68:=λe=>by
 simp only[D6,List.cons_append,List.nil_append,List.append_assoc,List.cons.injEq,true_and] at e;have e:=List.append_cancel_left e;simp only[List.cons.injEq,true_and] at e;have e:=List.append_cancel_left e;simp only[List.cons.injEq,true_and] at e;exact kY 67 68 n dC cs 0 e
end Go.SP
namespace Go.SW
open Go.RowKit
variable {σ:Bf}{x:Operand}{P:Program}{t t' ty:tI}{w:wO}
theorem oH{y:Operand}{a b:Bool}(D:P.underlying t=some .bool)(F:ev σ x=some (.bool a))(G:ev σ y=some (.bool b))(h:a=b):AK P σ (.binOp .eql t x y t') ty w (.bool true) w:=by
 have d:=cO (ty:=ty) (w:=w) (t':=t') D F G;rw[h,beq_self_eq_true] at d;exact d
end Go.SW
namespace Go.Proofs.YtelmolopaolbcaaGreatDoor
open Go.SW Go.SP Go.RowKit
def F2(x:Int)(m:Nat):Nat:=((IntKind.u64.wrap x).tmod (m:Int)).toNat
variable {i m n:Nat}
theorem HP(x:Int)(hm:0<m):F2 x m<m∧(IntKind.u64.wrap x).tmod (m:Int)=(F2 x m:Int):=by
 obtain⟨i,h,d⟩:=rem_m x m hm;unfold F2;rw[d];exact⟨oM,oM⟩
def HE(x:Int):Nat:=1+F2 x 3
def P7(n:Nat)(x:Int):DB:=if F2 x 5=2 then (2,F2 x n) else (F2 x 5,0)
def KJ(n:Nat)(l:List Int):List DB:=(l.take 4).map (P7 n)
def H9(n:Nat)(cs:List (List Int)):List (List DB):=(cs.take 4).map (KJ n)
theorem Pg(x:Int):1≤HE x∧HE x≤3:=by have:=(HP x (m:=3) dC).1;unfold HE;omega
theorem sB(d:1≤n)(x:Int):yA n (P7 n x):=by
 have D:=(HP x (m:=5) dC).1;have d:=(HP x (m:=n) oM).1;unfold P7 yA
 split
 · exact⟨Nat.lt_of_lt_of_le (Nat.lt_succ_self 2) dC,d,λh=>absurd C h⟩
 · exact⟨D,by dsimp only;omega,λ_=>C⟩
theorem dQ(d:1≤n)(cs:List (List Int)):sG n (H9 n cs):=λl h o D=>by
 obtain⟨F,_,rfl⟩:=List.mem_map.1 h;obtain⟨x,_,rfl⟩:=List.mem_map.1 D;exact sB d x
theorem L9(n:Nat)(cs:List (List Int)):(H9 n cs).length≤4:=by unfold H9;rw[List.length_map,List.length_take];omega
theorem Xg(n:Nat)(l:List Int):(KJ n l).length≤4:=by unfold KJ;rw[List.length_map,List.length_take];omega
theorem cK(n:Nat)(cs:List (List Int)):∀l∈H9 n cs,l.length≤4:=λl d=>by
 obtain⟨h,_,rfl⟩:=List.mem_map.1 d;exact Xg n h
theorem Xh(v:lU):∀n,(B4 v n).length=n*(3+v.length)
 |0=>by simp[B4]
 |n+1=>by rw[B4,List.length_append,Xh v n];simp only[vN,List.length_cons,List.length_append,List.length_nil,Nat.add_mul];omega
theorem Pm{v:lU}(d:v.length≤2)(h:n≤3):(B4 v n).length≤15:=by
 rw[Xh];exact Nat.le_trans (Nat.mul_le_mul h (Nat.add_le_add_left d 3)) dC
theorem nA{v:lU}(d:v.length≤2)(h:n≤3)(o:DB):(HX v n o).length≤19:=by
 have:=Pm d h;obtain⟨k,j⟩:=o
 match k with
 |0=>simp[HX,Cc]
 |1=>simp only[HX,List.length_append,List.length_cons,List.length_nil];omega
 |2=>simp only[HX,vN,List.length_append,List.length_cons,List.length_nil];omega
 |3=>simp only[HX,vN,Ep,Cc,List.length_append,List.length_cons,List.length_nil];omega
 |k+4=>simp[HX,I4]
theorem OS{v:lU}(d:v.length≤2)(h:n≤3):∀l:List DB,(Cf v n l).length≤19*l.length
 | []=>Nat.le_refl _
 |o::l=>by
   have:=nA d h o;have D:=OS d h l;simp only[Cf,List.flatMap_cons,List.length_append,List.length_cons] at D ⊢;omega
theorem Lq{v:lU}(d:v.length≤2)(D:n≤3)(c:UInt8):∀(cs:List (List DB))(i:Nat),(∀l∈cs,l.length≤4)→(En c v n i cs).length≤81*cs.length
 | [],_,_=>Nat.le_refl _
 |l::r,i,h=>by
   have G:=Lq d D c r (i+1) (λl F=>h l (.tail _ F));have:=OS d D l;have:=h l (.head _);simp only[En,Rc,List.length_append,List.length_cons,List.length_nil];omega
theorem cG{v:lU}(d:v.length≤2)(D:n≤3)(c:UInt8){cs:List (List DB)}(F:cs.length≤4)(h:∀l∈cs,l.length≤4):(DK n cs v c).length≤1000:=by
 have G:=Pm d D;have J:=Lq d D c cs 0 h;have K:=L8 n;simp only[DK,Ec,List.length_append,List.length_cons,List.length_nil];omega
theorem HU{v:lU}(L:GV v)(h:v.length≤2){c:UInt8}(K:GC c)(x:Int)(cs:List (List Int)):Ht (DK (HE x) (H9 (HE x) cs) v c)=some (.ok [([114],D6 (HE x) (H9 (HE x) cs) c)]):=by
 obtain⟨D,d⟩:=Pg x;generalize HE x=n at D d;have G:=L9 n cs;have J:=cK n cs;have O:=dQ D cs;have F:∀l∈H9 n cs,∀o∈l,o.2<n:=λl h o F=>(O l h o F).2.1;obtain⟨g1,_⟩:=aD 200 (DK n (H9 n cs) v c) (Nat.le_trans (cG h d c G J) dC);obtain⟨g2,g3⟩:=g1 _ (ZQ L K D d G J (λl h o Q=>Nat.lt_of_lt_of_le (F l h o Q) d));obtain⟨out,U⟩:=Yv (v:=v) K D d G F g2;unfold Ht;rw[OQ (show (CE _).2.2.2=0 from g3)];rw[show C3 (CE (DK n (H9 n cs) v c)).1=.ok out from U];show some (ZA (CE (DK n (H9 n cs) v c)).1)=_;rw[dX (v:=v) D d G J F (show (CE (DK n (H9 n cs) v c)).1.er=_ from g2)]
theorem Zb(a b:Int)(p q:List (List Int)):(D6 (HE a) (H9 (HE a) p) 67==D6 (HE b) (H9 (HE b) q) 67)=(Ec (HE a) (H9 (HE a) p) [97] 67==Ec (HE b) (H9 (HE b) q) [97] 67) :=
 bR (Pg a).1 (Pg a).2 (Pg b).1 (Pg b).2 (L9 _ _) (L9 _ _) (dQ (Pg a).1 p) (dQ (Pg b).1 q) 67
theorem Ph(v:lU)(i:Nat):B4 v (i+1)=B4 v i++[32,39]++v++[UInt8.ofNat (48+i)]:=by simp[B4,vN,dg]
theorem YX(i:Nat):Dx (i+1)=Dx i++[32,105,110,116]:=rfl
def Hq(c:UInt8)(v:lU)(n:Nat)(cs:List (List DB))(i:Nat):lU:=En c v n 0 (cs.take i)
theorem Qm(c:UInt8)(v:lU)(n:Nat):∀(a b:List (List DB))(i:Nat),En c v n i (a++b)=En c v n i a++En c v n (i+a.length) b
 | [],b,i=>rfl
 |l::a,b,i=>by simp only[List.cons_append,En,Qm c v n a b (i+1),List.append_assoc,List.length_cons];rw[show i+1+a.length=i+(a.length+1) by omega]
theorem jS{cs:List (List Int)}{l:List Int}(d:i<4)(h:cs[i]?=some l):(H9 n cs)[i]?=some (KJ n l):=by
 unfold H9;rw[List.getElem?_map,List.getElem?_take_of_lt d,h];rfl
theorem UP(c:UInt8)(v:lU){cs:List (List Int)}{l:List Int}(d:i<4)(D:cs[i]?=some l):Hq c v n (H9 n cs) (i+1)=Hq c v n (H9 n cs) i++([32,40,c,UInt8.ofNat (48+i)]++Cf v n (KJ n l)++[41]):=by
 have h:=jS (n:=n) d D;have F:((H9 n cs).take i).length=i:=by rw[List.length_take];have:=(List.getElem?_eq_some_iff.1 h).1;omega
 unfold Hq;rw[CC h,Qm,F];simp[En,Rc,dg]
theorem QF(c:UInt8)(v:lU){cs:List (List Int)}(h:cs.length≤i∨4≤i):Hq c v n (H9 n cs) i=En c v n 0 (H9 n cs):=by
 unfold Hq;rw[List.take_of_length_le];unfold H9;rw[List.length_map,List.length_take];omega
theorem H2(v:lU){l:List Int}{k:Nat}{x:Int}(d:k<4)(D:l[k]?=some x):Cf v n ((KJ n l).take (k+1))=Cf v n ((KJ n l).take k)++HX v n (P7 n x):=by
 have h:(KJ n l)[k]?=some (P7 n x):=by unfold KJ;rw[List.getElem?_map,List.getElem?_take_of_lt d,D];rfl
 rw[CC h,Cf,List.flatMap_append];simp[Cf]
theorem Qj(v:lU){l:List Int}{k:Nat}(h:l.length≤k∨4≤k):Cf v n ((KJ n l).take k)=Cf v n (KJ n l):=by
 rw[List.take_of_length_le];unfold KJ;rw[List.length_map,List.length_take];omega
theorem jG(d v:lU)(n:Nat)(l:List DB):d++Cf v n (l.take 0)=d:=by simp[Cf]
theorem kZ(w0:lU)(c:UInt8)(v:lU)(n:Nat)(cs:List (List DB)):w0++Hq c v n cs 0=w0:=by simp[Hq,En]
theorem Pl(w0:lU)(c:UInt8)(v:lU){cs:List (List Int)}{l:List Int}(d:i<4)(h:cs[i]?=some l):w0++Hq c v n (H9 n cs) (i+1)=(w0++Hq c v n (H9 n cs) i++[32,40]++[c]++[UInt8.ofNat (48+i)])++Cf v n (KJ n l)++[41]:=by rw[UP c v d h];simp
theorem PJ{w0:lU}{c:UInt8}{v:lU}{cs:List (List DB)}(hw:w0=[40,100,97,116,97,32,116,32,40]++B4 v n++[41])(h:Hq c v n cs i=En c v n 0 cs):w0++Hq c v n cs i++[32,40]++[c]++[57,41,41]=Ec n cs v c:=by rw[hw,h];simp[Ec]
theorem Zj(c:UInt8)(v:lU)(n:Nat)(cs:List (List DB)):Ec n cs v c++[32,40,114,111,111,116,32,114,32,40,116]++Dx n++[41,32]++[c]++[57,41]=DK n cs v c:=by simp[DK]
theorem Mt{v:lU}(d:v.length≤2)(D:n≤3)(c:UInt8)(cs:List (List Int))(i:Nat):(Hq c v n (H9 n cs) i).length≤324:=by
 have h:=Lq d D c ((H9 n cs).take i) 0 (λl F=>cK n cs l (List.mem_of_mem_take F));have G:=L9 n cs;have J:((H9 n cs).take i).length≤4:=by rw[List.length_take];omega
 unfold Hq;omega
theorem M4{v:lU}(d:v.length≤2)(D:n≤3)(l:List Int)(k:Nat):(Cf v n ((KJ n l).take k)).length≤76:=by
 have h:=OS d D ((KJ n l).take k);have F:=Xg n l;have G:((KJ n l).take k).length≤4:=by rw[List.length_take];omega
 omega
theorem eZ{v:lU}(d:v.length≤2)(h:n≤3)(c:UInt8)(cs:List (List Int)):(Ec n (H9 n cs) v c).length≤400:=by
 have D:=Pm d h;have F:=Lq d h c (H9 n cs) 0 (cK n cs);have G:=L9 n cs;simp only[Ec,List.length_append,List.length_cons,List.length_nil];omega
theorem rN{v:lU}{l:List Int}{k:Nat}{x:Int}(d:lU)(D:k<4)(F:l[k]?=some x)(h:F2 x 5=0):d++Cf v n ((KJ n l).take (k+1))=d++Cf v n ((KJ n l).take k)++[32,105,110,116]:=by rw[H2 v D F];unfold P7;rw[h];simp[HX,Cc]
theorem tW{v:lU}{l:List Int}{k:Nat}{x:Int}(d:lU)(D:k<4)(F:l[k]?=some x)(h:F2 x 5=1):d++Cf v n ((KJ n l).take (k+1))=d++Cf v n ((KJ n l).take k)++[32,40,116]++B4 v n++[41]:=by rw[H2 v D F];unfold P7;rw[h];simp[HX]
theorem vZ{v:lU}{l:List Int}{k:Nat}{x:Int}(d:lU)(D:k<4)(F:l[k]?=some x)(h:F2 x 5=2):d++Cf v n ((KJ n l).take (k+1))=d++Cf v n ((KJ n l).take k)++[32,39]++v++[UInt8.ofNat (48+F2 x n)]:=by rw[H2 v D F];unfold P7;rw[h];simp[HX,vN,dg]
theorem uM{v:lU}{l:List Int}{k:Nat}{x:Int}(d:lU)(D:k<4)(F:l[k]?=some x)(h:F2 x 5=3):d++Cf v n ((KJ n l).take (k+1))=d++Cf v n ((KJ n l).take k)++[32,40,116,117,112,108,101,32,105,110,116,32,39]++v++[48,41]:=by rw[H2 v D F];unfold P7;rw[h];simp[HX,Ep,Cc,vN,dg]
theorem rD{v:lU}{l:List Int}{k:Nat}{x:Int}(d:lU)(D:k<4)(F:l[k]?=some x)(h:F2 x 5=4):d++Cf v n ((KJ n l).take (k+1))=d++Cf v n ((KJ n l).take k)++[32,115,116,114,105,110,103]:=by rw[H2 v D F];unfold P7;rw[h];simp[HX,I4]
end Go.Proofs.YtelmolopaolbcaaGreatDoor
namespace Go.Proofs.YtelmolopaolbcaaGreatDoor
open Go.SW Go.SP Go.RowKit Go.Proofs.Tryz
set_option maxHeartbeats 1000000 in
theorem KD(w:wO)(f:Fq)(hv:Vl w f)(n:Int)(l:List (List Int))(a:oA)(c:Nat)(hI:QU w f l a)(v:lU)(F:v.length≤2)(G:UInt8) :
   Bq prog 9 #[.agg #[.int .i64 n,.slice a l.length c],S v,S [G]] w (B3 (α:=Unit) (λ_=>S (Ec (HE n) (H9 (HE n) l) v G)) (λ_=>True) (λ_=>[]) w f):=by
 obtain⟨hk,hkm⟩:=HP n (m:=3) dC;rw[show HE n=1+F2 n 3 from C];generalize F2 n 3=k at hk hkm ⊢;refine Cw (X:=X0 w f) (H:=[]) (R:=[]) (B:=[]) (Fs:=[λw f=>QU w f l a]) (f:=f) func9 C C C (Ci hv ⟨hI,tQ⟩ ⟨QU.mono,tQ⟩)<|Aa 10 [0] (λb1=>y<|λ_=>Dn C C (λw f d=>BJ (m:=_) C Lg C)<|Dn C C (λw f d=>Nc (k:Int) C C dC hkm)<|Dn C C (λw f d=>BJ (m:=(k:Int)) C Nh (Gm ⟨oM,oM⟩))<|Aa 17 [] (And.intro ⟨oM,oM⟩<|λ_=>?_));refine FG (α:=Nat) (λi=>1+k-i) (λi=>i≤1+k) (λi=>(E7 1 (S v) 2 (S [G]) 3 (.pointer (some ⟨b1,0,none⟩)) 7 (.int .i64 (1+(k:Int))) 8 (S (B4 v i)) 9 (S (B4 v i)) 10 (.int .i64 (i:Int)))) (λi=>X0 w f) (λi=>[⟨b1,[.int .i64 n,.slice a l.length c],24,true⟩]) (λi=>[]) (λi=>[]) (λi=>[λw f=>QU w f l a]) (0) (Nat.zero_le _) lE (λw f d=>d) ?_;rintro i hi;refine Aa 8 [] (λ_=>AN 22 C C (λO=>?_) (λO=>?_));refine Aa 6 [] (λ_=>?_);have hik:i<1+k:=by have:=dT O;omega
 have hnl:=Pm F (n:=i) oM;refine Aa 7 [] (And.intro lM<|And.intro lM<|And.intro ⟨oM,oM⟩<|λ_=>Dn C C (λw f d=>BJ (m:=((UInt8.ofNat (48+i)).toNat:Int)) C Sk (OH (48+i)))<|Aa 1 [] (λb2=>λ_=>jN 0 1 1 C C C dC<|Dn C C (λw f d=>Mj (l:=[UInt8.ofNat (48+i)]) C Ld (d.row _ (.head _)))<|Aa 11 [] (And.intro lM<|And.intro lM<|And.intro lM<|And.intro ⟨oM,oM⟩<|λ_=>Dn C C (λw f d=>BJ (m:=((UInt8.ofNat (48+i)).toNat:Int)) C Sk (OH (48+i)))<|Aa 1 [] (λb3=>λ_=>jN 0 1 1 C C C dC<|Dn C C (λw f d=>Mj (l:=[UInt8.ofNat (48+i)]) C Ld (d.row _ (.head _))) ?_))));exact Aa 10 [] (And.intro lM<|And.intro ⟨oM,oM⟩<|λ_=>Df (i+1) (show 1+k-(i+1)<1+k-i by omega) (show i+1≤1+k by omega) (zU C C C C (by rw[Ph];rfl) (by rw[Ph];rfl) C) (λw f d=>⟨_,d.less (sK sZ) (List.nil_sublist _) nE (λ_ h=>h)⟩));refine Aa 3 [] (λ_=>Fh<|Aa 3 [] (λ_=>?_));obtain rfl:i=1+k:=by have:=dF O;omega
 have hnl:=Pm F (n:=1+k) oM;refine Aa 9 [] (And.intro lM<|And.intro lM<|λ_=>?_);obtain⟨w0,K⟩:∃q,q=[40,100,97,116,97,32,116,32,40]++B4 v (1+k)++[41]:=⟨_,C⟩;have hwl:w0.length≤25:=by rw[K];simp only[List.length_append,List.length_cons,List.length_nil];omega
 refine Aa 5 [] (λ_=>?_);refine FG (α:=Nat) (λi=>l.length-i) (λi=>i≤l.length) (λi=>(E7 1 (S v) 2 (S [G]) 3 (.pointer (some ⟨b1,0,none⟩)) 7 (.int .i64 (1+(k:Int))) 9 (S (B4 v (1+k))) 11 (S (w0++Hq G v (1+k) (H9 (1+k) l) i)) 12 (.int .i64 (i:Int)))) (λi=>X0 w f) (λi=>[⟨b1,[.int .i64 n,.slice a l.length c],24,true⟩]) (λi=>[]) (λi=>[]) (λi=>[λw f=>QU w f l a]) (0) (Nat.zero_le _) (zU C C C C C (by rw[kZ,K];rfl) C) (λw f d=>d.less (sK sZ) (List.nil_sublist _) nE (λ_ h=>h)) ?_;rintro i hi;refine Aa 9 [0] (y<|λ_=>AN 53 C C (λQ=>?_) (λQ=>?_));refine Aa 5 [] (λ_=>AN 56 C C (λh3=>?_) (λh3=>?_));refine Aa 6 [] (λ_=>?_);have hil:i<l.length:=by have:=dT Q;omega
 have hi4:i<4:=by have:=dT h3;omega
 obtain⟨x,hx⟩:∃x,l[i]?=some x:=⟨_,List.getElem?_eq_getElem hil⟩;have hcl:=Mt F (n:=1+k) oM G l i;refine KU (α:=Nat×Nat×oA×Nat) (λy=>a=some ⟨y.1,y.2.1,none⟩) (λy=>[⟨y.1,y.2.1+i*1,[.slice y.2.2.1 x.length y.2.2.2]⟩]) (λy=>[λw f=>B9 w f x y.2.2.1 y.2.2.2]) (λw f d=>let ⟨b,off,a2,c2,O,Q,h3⟩:=d.f0 i x hx;⟨(b,off,a2,c2),O,oE Q,AI.mem ⟨h3,tQ⟩⟩) (λ_=>Aw.mem ⟨B9.mono,tQ⟩) ?_;rintro⟨eb,eo,xa,xc⟩ he;dsimp only at he ⊢;subst he;refine Aa 7 [] (And.intro lM<|And.intro lM<|And.intro ⟨oM,oM⟩<|λ_=>Dn C C (λw f d=>BJ (m:=((UInt8.ofNat (48+i)).toNat:Int)) C Sk (OH (48+i)))<|Aa 1 [] (λb4=>λ_=>jN 0 1 1 C C C dC<|Dn C C (λw f d=>Mj (l:=[UInt8.ofNat (48+i)]) C Ld (d.row _ (.head _)))<|Aa 6 [] (And.intro lM<|λ_=>?_)));obtain⟨U,L⟩:∃q,q=w0++Hq G v (1+k) (H9 (1+k) l) i++[32,40]++[G]++[UInt8.ofNat (48+i)]:=⟨_,C⟩;have hsl:U.length≤353:=by rw[L];simp only[List.length_append,List.length_cons,List.length_nil];omega
 refine Aa 5 [] (λ_=>?_);refine FG (α:=Nat) (λj=>x.length-j) (λj=>j≤x.length) (λj=>(E8 1 (S v) 2 (S [G]) 3 (.pointer (some ⟨b1,0,none⟩)) 7 (.int .i64 (1+(k:Int))) 9 (S (B4 v (1+k))) 11 (S (U++Cf v (1+k) ((KJ (1+k) x).take j))) 12 (.int .i64 (i:Int)) 13 (.int .i64 (j:Int)))) (λj=>X0 w f) (λj=>[⟨b1,[.int .i64 n,.slice (some ⟨eb,eo,none⟩) l.length c],24,true⟩]) (λj=>[]) (λj=>[⟨eb,eo+i*1,[.slice xa x.length xc]⟩]) (λj=>[λw f=>B9 w f x xa xc,λw f=>QU w f l (some ⟨eb,eo,none⟩)]) (0) (Nat.zero_le _) (iY C C C C C (by rw[jG,L];rfl) C C) (λw f d=>d.less (sK sZ) (List.nil_sublist _) (λ_ h=>h) (mR [0,1])) ?_;rintro j hj;refine Aa 2 [] (λ_=>?_);have hol:=M4 F (n:=1+k) oM x j;refine Aa 10 [0,100,0] (y<|And.intro oM<|y2<|λ_=>AN 77 C C (λh4=>?_) (λh4=>?_));refine Aa 5 [] (λ_=>AN 80 C C (λh5=>?_) (λh5=>?_));refine Aa 6 [] (λ_=>?_);have hjl:j<x.length:=by have:=dT h4;omega
 have J:j<4:=by have:=dT h5;omega
 obtain⟨v0,hy⟩:∃v,x[j]?=some v:=⟨_,List.getElem?_eq_getElem hjl⟩;have h5:=HP v0 (m:=5) dC;have hk1:=(HP v0 (m:=1+k) oM).1;have hkn:(IntKind.u64.wrap v0).tmod (1+(k:Int))=(F2 v0 (1+k):Int):=by have:=(HP v0 (m:=1+k) oM).2;rwa[show ((1+k:Nat):Int)=1+(k:Int) by omega] at this
 refine KU (α:=Nat×Nat) (λy=>xa=some ⟨y.1,y.2,none⟩) (λy=>[⟨y.1,y.2+j*1,[.int .i64 v0]⟩]) (λy=>[]) (λw f d=>let ⟨b,off,O,Q⟩:=B9.get d.f0 hy;⟨(b,off),O,oE Q,nE⟩) (λy=>Aw.mem tQ) ?_;rintro⟨ib,io⟩ he;subst he;refine Aa 9 [0,101,0,100,0] (y<|And.intro oM<|y2<|And.intro oM<|y2<|λ_=>Dn C C (λw f d=>BJ (m:=_) C Lg C)<|Dn C C (λw f d=>Nc (F2 v0 5:Int) C C dC h5.2)<|Dn C C (λw f d=>BJ (m:=(F2 v0 5:Int)) C Nh (Gm ⟨oM,oM⟩))<|Aa 9 [] (λ_=>AN 94 C C (λh6=>?_) (λh6=>?_)));refine Aa 14 [] (And.intro lM<|And.intro ⟨oM,oM⟩<|λ_=>?_);have D:F2 v0 5=0:=by have:=eq_of_beq h6;omega
 exact Df (j+1) (show x.length-(j+1)<x.length-j by omega) (show j+1≤x.length by omega) (iY C C C C C (by rw[rN U J hy D];rfl) C C) (λw f d=>⟨_,d.less (sK sZ) (List.nil_sublist _) (λ_ h=>.tail _ h) (mR [0,1])⟩);refine Aa 7 [] (λ_=>AN 98 C C (λh7=>?_) (λh7=>?_));refine Aa 17 [] (And.intro lM<|And.intro lM<|And.intro lM<|And.intro ⟨oM,oM⟩<|λ_=>?_);have D:F2 v0 5=1:=by have:=eq_of_beq h7;omega
 exact Df (j+1) (show x.length-(j+1)<x.length-j by omega) (show j+1≤x.length by omega) (iY C C C C C (by rw[tW U J hy D];rfl) C C) (λw f d=>⟨_,d.less (sK sZ) (List.nil_sublist _) (λ_ h=>.tail _ h) (mR [0,1])⟩);refine Aa 7 [] (λ_=>AN 105 C C (λh8=>?_) (λh8=>?_));refine Aa 14 [0,101,0,100,0] (And.intro lM<|And.intro lM<|y<|And.intro oM<|y2<|And.intro oM<|y2<|λ_=>Dn C C (λw f d=>BJ (m:=_) C Lg C)<|Aa 1 [] (λ_=>Dn C C (λw f d=>BJ (m:=(1+(k:Int))) C Lg (GL ⟨oM,oM⟩))<|Dn C C (λw f d=>Nc (F2 v0 (1+k):Int) C C oM hkn)<|Dn C C (λw f d=>BJ (m:=(F2 v0 (1+k):Int)) C Nh (Gm ⟨oM,oM⟩))<|Aa 1 [] (And.intro ⟨oM,oM⟩<|λ_=>Dn C C (λw f d=>BJ (m:=((UInt8.ofNat (48+F2 v0 (1+k))).toNat:Int)) C Sk (OH (48+F2 v0 (1+k))))<|Aa 1 [] (λb5=>λ_=>jN 0 1 1 C C C dC ?_))));refine Dn C C (λw f d=>Mj (l:=[UInt8.ofNat (48+F2 v0 (1+k))]) C Ld (d.row _ (.head _)))<|Aa 11 [] (And.intro lM<|And.intro ⟨oM,oM⟩<|λ_=>?_);have D:F2 v0 5=2:=by have:=eq_of_beq h8;omega
 exact Df (j+1) (show x.length-(j+1)<x.length-j by omega) (show j+1≤x.length by omega) (iY C C C C C (by rw[vZ U J hy D];rfl) C C) (λw f d=>⟨_,d.less (sK sZ) (List.nil_sublist _) (λ_ h=>.tail _ h) (mR [0,1])⟩);refine Aa 7 [] (λ_=>AN 129 C C (λh9=>?_) (λh9=>?_));refine Aa 17 [] (And.intro lM<|And.intro lM<|And.intro lM<|And.intro ⟨oM,oM⟩<|λ_=>?_);have D:F2 v0 5=3:=by have:=eq_of_beq h9;omega
 exact Df (j+1) (show x.length-(j+1)<x.length-j by omega) (show j+1≤x.length by omega) (iY C C C C C (by rw[uM U J hy D];rfl) C C) (λw f d=>⟨_,d.less (sK sZ) (List.nil_sublist _) (λ_ h=>.tail _ h) (mR [0,1])⟩);refine Aa 7 [] (λ_=>AN 136 C C (λY=>?_) (λY=>?_));refine Aa 14 [] (And.intro lM<|And.intro ⟨oM,oM⟩<|λ_=>?_);have D:F2 v0 5=4:=by have:=eq_of_beq Y;omega
 exact Df (j+1) (show x.length-(j+1)<x.length-j by omega) (show j+1≤x.length by omega) (iY C C C C C (by rw[rD U J hy D];rfl) C C) (λw f d=>⟨_,d.less (sK sZ) (List.nil_sublist _) (λ_ h=>.tail _ h) (mR [0,1])⟩);have e0:=ne_of_beq_false h6;have e1:=ne_of_beq_false h7;have e2:=ne_of_beq_false h8;have e3:=ne_of_beq_false h9;have e4:=ne_of_beq_false Y;omega;refine Aa 3 [] (λ_=>Fh<|Aa 2 [] (λ_=>?_));have Z:Cf v (1+k) ((KJ (1+k) x).take j)=Cf v (1+k) (KJ (1+k) x):=Qj v (.inr (by have:=dF h5;omega));have hol:=M4 F (n:=1+k) oM x j;exact Aa 12 [] (And.intro lM<|And.intro ⟨oM,oM⟩<|λ_=>Df (i+1) (show l.length-(i+1)<l.length-i by omega) (show i+1≤l.length by omega) (zU C C C C C (by rw[Pl w0 G v hi4 hx,← L,← Z];rfl) C) (λw f d=>⟨_,d.less (sK sZ) (List.nil_sublist _) nE (mR [1])⟩));refine Aa 8 [] (λ_=>Fh<|Aa 2 [] (λ_=>?_));have Z:Cf v (1+k) ((KJ (1+k) x).take j)=Cf v (1+k) (KJ (1+k) x):=Qj v (.inl (by have:=dF h4;omega));have hol:=M4 F (n:=1+k) oM x j;exact Aa 12 [] (And.intro lM<|And.intro ⟨oM,oM⟩<|λ_=>Df (i+1) (show l.length-(i+1)<l.length-i by omega) (show i+1≤l.length by omega) (zU C C C C C (by rw[Pl w0 G v hi4 hx,← L,← Z];rfl) C) (λw f d=>⟨_,d.less (sK sZ) (List.nil_sublist _) nE (mR [1])⟩));refine Aa 3 [] (λ_=>Fh<|Aa 3 [] (λ_=>?_));have hcl:=Mt F (n:=1+k) oM G l i;have hce:=QF G v (n:=1+k) (cs:=l) (i:=i) (.inr (by have:=dF h3;omega));exact Aa 10 [] (And.intro lM<|And.intro lM<|And.intro lM<|λ_=>AR (CY C C) (λw f d=>⟨(),f,(by rw[← PJ K hce]),tQ,d.exm,tQ⟩));refine Aa 8 [] (λ_=>Fh<|Aa 3 [] (λ_=>?_));have hcl:=Mt F (n:=1+k) oM G l i;have hce:=QF G v (n:=1+k) (cs:=l) (i:=i) (.inl (by have:=dF Q;omega));exact Aa 10 [] (And.intro lM<|And.intro lM<|And.intro lM<|λ_=>AR (CY C C) (λw f d=>⟨(),f,(by rw[← PJ K hce]),tQ,d.exm,tQ⟩))
theorem IG(w:wO)(f:Fq)(Q:Vl w f)(n:Int)(l:List (List Int))(a:oA)(c:Nat)(U:QU w f l a)(v:lU)(D:v.length≤2)(h:UInt8) :
   Bq prog 7 #[.agg #[.int .i64 n,.slice a l.length c],S v,S [h]] w (B3 (α:=Unit) (λ_=>S (DK (HE n) (H9 (HE n) l) v h)) (λ_=>True) (λ_=>[]) w f):=by
 obtain⟨Y,F⟩:=HP n (m:=3) dC;obtain⟨k,G⟩:∃k,k=F2 n 3:=⟨_,C⟩;have L:HE n=1+k:=by rw[G];rfl
 rw[← G] at Y F;rw[L];refine Cw (X:=X0 w f) (H:=[]) (R:=[]) (B:=[]) (Fs:=[λw f=>QU w f l a]) (f:=f) func7 C C C (Ci Q ⟨U,tQ⟩ ⟨QU.mono,tQ⟩)<|Aa 10 [0] (λb1=>y<|λ_=>Dn C C (λw f d=>BJ (m:=_) C Lg C)<|Dn C C (λw f d=>Nc (k:Int) C C dC F)<|Dn C C (λw f d=>BJ (m:=(k:Int)) C Nh (Gm ⟨oM,oM⟩))<|Aa 16 [] (And.intro ⟨oM,oM⟩<|λ_=>?_));refine FG (α:=Nat) (λi=>1+k-i) (λi=>i≤1+k) (λi=>(E6 1 (S v) 2 (S [h]) 3 (.pointer (some ⟨b1,0,none⟩)) 7 (.int .i64 (1+(k:Int))) 8 (S (Dx i)) 9 (.int .i64 (i:Int)))) (λi=>X0 w f) (λi=>[⟨b1,[.int .i64 n,.slice a l.length c],24,true⟩]) (λi=>[]) (λi=>[]) (λi=>[λw f=>QU w f l a]) (0) (Nat.zero_le _) lE (λw f d=>d) ?_;rintro i hi;refine Aa 8 [] (λ_=>AN 18 C C (λJ=>?_) (λJ=>?_));refine Aa 5 [] (λ_=>?_);have K:=L8 i;have Z:i<1+k:=by have:=dT J;omega
 exact Aa 12 [] (And.intro lM<|And.intro ⟨oM,oM⟩<|λ_=>Df (i+1) (show 1+k-(i+1)<1+k-i by omega) (show i+1≤1+k by omega) (lu6 C C C C (by rw[YX];rfl) C) (λw f d=>⟨_,d⟩));refine Aa 3 [] (λ_=>Fh<|Aa 3 [] (λ_=>?_));obtain rfl:i=1+k:=by have:=dF J;omega
 have K:=L8 (1+k);have hwl:=eZ D (n:=1+k) oM h l;refine Aa 4 [0] (y<|λ_=>Bt (α:=Unit) (val:=λ_=>S (Ec (1+k) (H9 (1+k) l) v h)) (q:=λ_=>True) (F':=λ_=>[]) C C (eC fX C C) (λw f d=>(by have O:=KD w f d.vl n l a c d.f0 v D h;rw[L] at O;exact O)) (λ_=>trivial) ?_);rintro⟨⟩ -;exact Aa 11 [] (And.intro lM<|And.intro lM<|And.intro lM<|And.intro lM<|And.intro lM<|λ_=>AR (CY C C) (λw f d=>⟨(),f,(by rw[← Zj]),tQ,d.exm,tQ⟩))
theorem LV(w:wO)(f:Fq)(hv:Vl w f)(hJ:Dy w f)(hG:FI w f)(h:Int)(D:List (List Int))(a1:oA)(L:Nat)(O:QU w f D a1)(K:Int)(l2:List (List Int))(a2:oA)(c2:Nat)(Q:QU w f l2 a2) :
   Bq prog 3 #[.agg #[.int .i64 h,.slice a1 D.length L],.agg #[.int .i64 K,.slice a2 l2.length c2]] w (B3 (α:=Unit) (λ_=>.bool true) (λ_=>True) (λ_=>[]) w f):=by
 refine Cw (X:=X0 w f) (H:=[]) (R:=[]) (B:=[]) (Fs:=[λw f=>Dy w f,λw f=>FI w f,λw f=>QU w f D a1,λw f=>QU w f l2 a2]) (f:=f) func3 C C C (Ci hv ⟨hJ,hG,O,Q,tQ⟩ ⟨Dy.mono,FI.mono,QU.mono,QU.mono,tQ⟩)<|Aa 10 [1] (λb1=>λb2=>y<|λ_=>Bt C C (eC Xl C C) (λw f d=>IG w f d.vl h D a1 L d.f2 [97] dC 67) (λ_=>trivial) ?_);rintro⟨⟩ -;refine Bt (α:=oA×Nat) (val:=λx=>.tuple #[.slice x.1 1 x.2,.agg #[.int .i64 0,.int .i64 0],.int .i64 0,.bool true]) (q:=λ_=>True) (F':=λx=>[λw f=>K3 w f [([114],(D6 (HE h) (H9 (HE h) D) 67))] x.1 x.2]) C C (eC Qe C C) (λw f d=>(by have F:=Gc w f d.vl d.f0 d.f1 (DK (HE h) (H9 (HE h) D) [97] 67);rw[HU wQ (by decide) (.inl C)] at F;exact F)) (λ_=>⟨K3.mono,tQ⟩) ?_;rintro⟨U,r1c⟩ -;refine KU (α:=Nat×Nat) (λx=>U=some ⟨x.1,x.2,none⟩) (λx=>[⟨x.1,x.2,bC [([114],(D6 (HE h) (H9 (HE h) D) 67))]⟩]) (λx=>[]) (λw f d=>let ⟨x,G,J⟩:=K3.opn d.f0 (List.cons_ne_nil _ _);⟨x,G,oE J,nE⟩) (λx=>Aw.mem tQ) ?_;rintro⟨r1b,r1o⟩ rfl;refine Aa 15 [0,2] (λb3=>y<|y<|λ_=>Bt C C (eC Xl C C) (λw f d=>IG w f d.vl h D a1 L d.f3 [122,122] dC 67) (λ_=>trivial) ?_);rintro⟨⟩ -;refine Bt (α:=oA×Nat) (val:=λx=>.tuple #[.slice x.1 1 x.2,.agg #[.int .i64 0,.int .i64 0],.int .i64 0,.bool true]) (q:=λ_=>True) (F':=λx=>[λw f=>K3 w f [([114],(D6 (HE h) (H9 (HE h) D) 67))] x.1 x.2]) C C (eC Qe C C) (λw f d=>(by have F:=Gc w f d.vl d.f1 d.f2 (DK (HE h) (H9 (HE h) D) [122,122] 67);rw[HU gv_z (by decide) (.inl C)] at F;exact F)) (λ_=>⟨K3.mono,tQ⟩) ?_;rintro⟨Y,r2c⟩ -;refine KU (α:=Nat×Nat) (λx=>Y=some ⟨x.1,x.2,none⟩) (λx=>[⟨x.1,x.2,bC [([114],(D6 (HE h) (H9 (HE h) D) 67))]⟩]) (λx=>[]) (λw f d=>let ⟨x,G,J⟩:=K3.opn d.f0 (List.cons_ne_nil _ _);⟨x,G,oE J,nE⟩) (λx=>Aw.mem tQ) ?_;rintro⟨r2b,r2o⟩ rfl;refine Aa 15 [0,3] (λb4=>y<|y<|λ_=>Bt C C (eC Xl C C) (λw f d=>IG w f d.vl h D a1 L d.f4 [97] dC 68) (λ_=>trivial) ?_);rintro⟨⟩ -;refine Bt (α:=oA×Nat) (val:=λx=>.tuple #[.slice x.1 1 x.2,.agg #[.int .i64 0,.int .i64 0],.int .i64 0,.bool true]) (q:=λ_=>True) (F':=λx=>[λw f=>K3 w f [([114],(D6 (HE h) (H9 (HE h) D) 68))] x.1 x.2]) C C (eC Qe C C) (λw f d=>(by have F:=Gc w f d.vl d.f2 d.f3 (DK (HE h) (H9 (HE h) D) [97] 68);rw[HU wQ (by decide) (.inr C)] at F;exact F)) (λ_=>⟨K3.mono,tQ⟩) ?_;rintro⟨Z,r3c⟩ -;refine KU (α:=Nat×Nat) (λx=>Z=some ⟨x.1,x.2,none⟩) (λx=>[⟨x.1,x.2,bC [([114],(D6 (HE h) (H9 (HE h) D) 68))]⟩]) (λx=>[]) (λw f d=>let ⟨x,G,J⟩:=K3.opn d.f0 (List.cons_ne_nil _ _);⟨x,G,oE J,nE⟩) (λx=>Aw.mem tQ) ?_;rintro⟨r3b,r3o⟩ rfl;refine Aa 15 [0,3] (λb5=>y<|y<|λ_=>Bt C C (eC Xl C C) (λw f d=>IG w f d.vl K l2 a2 c2 d.f6 [97] dC 67) (λ_=>trivial) ?_);rintro⟨⟩ -
 refine Bt (α:=oA×Nat) (val:=λx=>.tuple #[.slice x.1 1 x.2,.agg #[.int .i64 0,.int .i64 0],.int .i64 0,.bool true]) (q:=λ_=>True) (F':=λx=>[λw f=>K3 w f [([114],(D6 (HE K) (H9 (HE K) l2) 67))] x.1 x.2]) C C (eC Qe C C) (λw f d=>(by have F:=Gc w f d.vl d.f3 d.f4 (DK (HE K) (H9 (HE K) l2) [97] 67);rw[HU wQ (by decide) (.inl C)] at F;exact F)) (λ_=>⟨K3.mono,tQ⟩) ?_;rintro⟨r4a,r4c⟩ -;refine KU (α:=Nat×Nat) (λx=>r4a=some ⟨x.1,x.2,none⟩) (λx=>[⟨x.1,x.2,bC [([114],(D6 (HE K) (H9 (HE K) l2) 67))]⟩]) (λx=>[]) (λw f d=>let ⟨x,G,J⟩:=K3.opn d.f0 (List.cons_ne_nil _ _);⟨x,G,oE J,nE⟩) (λx=>Aw.mem tQ) ?_;rintro⟨r4b,r4o⟩ rfl;refine Aa 15 [0] (λb6=>y<|λ_=>Bt C C (eC qent8 C C) (λw f d=>UI w f d.vl d.f4 d.f5) (λ_=>trivial) ?_);rintro⟨⟩ -;refine Aa 45 [] (λ_=>CF [0,1,2,3,4,5] Al (rd [0,1,2,3,4,5,6,7,8,9,10,11,12,13,14,15,16,17,18,19,20,21,22,23,24,25,26,27,28,29,30,32] (.br 31 (.br 33 (rd [34,35,36,37] .fin) .fin) .fin)) C kR<|A2 10 [103,1,102,1] (And.intro dC<|y2<|And.intro dC<|y2<|λ_=>Jn 118 C (λG=>?_) (λG=>?_)));refine A2 11 [103,1,101,1] (And.intro dC<|y2<|And.intro dC<|y2<|λ_=>Jn 129 C (λJ=>?_) (λJ=>?_));refine A2 11 [103,1,100,1,5,4] (And.intro dC<|y2<|And.intro dC<|y2<|y<|y<|λ_=>Ag C ?_ Aj);refine Bt C C (eC fX C C) (λw f d=>KD w f d.vl h D a1 L d.f6 [97] dC 67) (λ_=>trivial) ?_;rintro⟨⟩ -;refine Aa 1 [] (λ_=>Au [0,1,2,3,4,5] C<|Ag C ?_ Aj);refine Bt C C (eC fX C C) (λw f d=>KD w f d.vl K l2 a2 c2 d.f7 [97] dC 67) (λ_=>trivial) ?_;rintro⟨⟩ -;exact Aa 1 [] (λ_=>Au [0,1,2,3,4,5] C<|A2 1 [] (λ_=>GI C C C (λw hK=>oH qunb4 C C (Zb _ _ _ _))<|A2 2 [] (λ_=>Bm<|Aa 2 [] (λ_=>AR (CY C C) (λw f d=>⟨(),f,C,tQ,d.exm,tQ⟩)))));exact absurd J (by simpa using jI _ _);exact absurd G (by simp)
end Go.Proofs.YtelmolopaolbcaaGreatDoor
namespace Go.Proofs.YtelmolopaolbcaaGreatDoor.SNames
open Go.SW Go.SP Go.RowKit Go.Lib Go.ChangeShapes Go.WideShapes Go.ChangeAt Go.ChangeMaps
theorem dP:laidOutB Tryz.prog=true:=kR
set_option maxRecDepth 100000 in
theorem eP(H:Type)(enc:TypeId×Value→H)(W:World)(base:Nat)(args:Array Value)(ds gs:List (DataW H))(before:List MemPlace)
   (hval:∀(j:Nat) t v,Tryz.f3.params[j]?=some t→args[j]?=some v→Value.okWide Tryz.prog W .any base t v)
   (hW:DataW.Whole enc Tryz.prog Tryz.f3.params.toList Rows.schemaNamesSpec.vars false W args.toList ds gs before) (hL:laidMetH Tryz.prog Rows.schemaNamesRow.laid W) (hS:W.ShapedOpen Tryz.prog) :
   Calls Tryz.prog 3 args W λe W'=>∃v,e=.returned v∧Rows.schemaNamesSpec.post enc Tryz.prog Tryz.f3 false true false false W args v W':=by
 have hW':=hW;obtain⟨p,q,hA0,hV,rfl,hfz,hnd⟩:=hW;have hA:DataW.TrodAll enc Tryz.prog W 0 (λ_=>true) true Tryz.f3.params.toList args.toList ds p:=hA0;rw[Tryz.params3] at hA hval;obtain⟨v0,vs0,d0,ds0,p0,q0,hargs0,rfl,rfl,h0,r0⟩:=trodAll_cons hA;obtain⟨v1,vs1,d1,ds1,p1,q1,hargs1,rfl,rfl,h1,r1⟩:=trodAll_cons r0;obtain⟨rfl,rfl,rfl⟩:=trodAll_nil r1
 obtain rfl:args=#[v0,v1]:=by
   obtain⟨l⟩:=args;exact congrArg Array.mk (hargs0.trans (congrArg _ (hargs1)))
 obtain⟨rfl,rfl⟩:=trodVars_none hV;obtain⟨n0,x0,a0,c0,rfl,hI0⟩:=N7 kR (hval 0 24 v0 C C) h0;obtain⟨n1,x1,a1,c1,rfl,hI1⟩:=N7 kR (hval 1 24 v1 C C) h1;clear hA0;simp only[List.append_nil] at hW';refine Calls.mono (iE (LV W (Z7 W) (Wi W) (qK hL hS).1 (qK hL hS).2 n0 x0 a0 c0 hI0 n1 x1 a1 c1 hI1)) ?_;rintro e W' ⟨v,rfl,rfl,hb⟩;exact⟨_,C,_,_,_,[],_,[],hW',trodAll_cons_mk (shut_bool Tryz.underlying4 _) trodAll_mk0,trodAll_cons_mk (Nx dP kR kR h0 _ hb) (trodAll_cons_mk (Nx dP kR kR h1 _ hb) trodAll_mk0),C,hb.frame _,λh=>by cases h⟩
noncomputable def lw(os:Os):World:=World.laidAll Tryz.prog os Rows.schemaNamesRow.laid
theorem fW(os:Os):laidMetH Tryz.prog Rows.schemaNamesRow.laid ((lw os).forCall (λ_ _=>0) ⟨#[],#[Value.agg #[.int .i64 0,.slice none 0 0],Value.agg #[.int .i64 0,.slice none 0 0]],[]⟩).memory:=by
 rw[MakeChecks.laidMetH_plain _ _ _ (by kernel_rfl)];exact laidMet_laidAll _ kR kR
theorem reads(os:Os){H:Type}(enc:TypeId×Value→H):∃places,DataW.whole enc Tryz.prog ((lw os).forCall (λ_ _=>0) ⟨#[],#[Value.agg #[.int .i64 0,.slice none 0 0],Value.agg #[.int .i64 0,.slice none 0 0]],[]⟩).memory Tryz.f3.params.toList Rows.schemaNamesSpec.vars false (#[Value.agg #[.int .i64 0,.slice none 0 0],Value.agg #[.int .i64 0,.slice none 0 0]]:Array Value).toList 8=some ([.agg [.lit (.int .i64 0),.nil],.agg [.lit (.int .i64 0),.nil]],[],places) :=
 ⟨[],kR⟩
set_option maxRecDepth 100000 in
theorem lifted(os:Os)(started:os.Started)(H:Type)(enc:TypeId×Value→H)(F:Stop.Interp) :
   ReturnsInHanded {} Tryz.checked os 3 .any ((OpenSpec.ofChange Rows.schemaNamesSpec).preRow enc Tryz.prog Tryz.f3 Rows.schemaNamesRow.domain false Rows.schemaNamesRow.laid) (((OpenSpec.ofChange Rows.schemaNamesSpec).at F).post enc Tryz.prog Tryz.f3 false true false false):=by
 obtain⟨places,hx⟩:=reads os enc
 refine returnsInHanded_of_row (C:=Tryz.checked) (s:=OpenSpec.ofChange Rows.schemaNamesSpec) own started kR Tryz.func3
   ⟨lw os,λ_ _=>0,⟨#[],#[Value.agg #[.int .i64 0,.slice none 0 0],Value.agg #[.int .i64 0,.slice none 0 0]],[]⟩,World.laidAll_os _ _ _,World.shaped_of_ZipB kR kR,rfl,(Input.okWide_of_okWideB kR).2,
     OpenSpec.preRow_of_cond 8 hx kR (λk hk=>by cases hk) kR (fW os),by simp[Assume.holds]⟩ ?_
 intro W base args ds gs before hval hW _ _ _ hL hS _;exact eP H enc W base args ds gs before hval hW hL hS
abbrev jc:=Rows.schemaNamesRow
abbrev js:=(OpenSpec.ofChange Rows.schemaNamesSpec).bare
theorem jT{a b:Bool}(h:a=true)(k:b=true):(a&&b)=true:=by rw[h,k];rfl
theorem jL{a b:Bool}(h:(a&&b)=true):a=true:=((Bool.and_eq_true a b).mp h).1
theorem jR{a b:Bool}(h:(a&&b)=true):b=true:=((Bool.and_eq_true a b).mp h).2
theorem j0:((jc.wf (OpenSpec.ofChange js))&&(laidOutB Tryz.pinned.checked.prog)&&(mapsRowed Tryz.pinned.checked.prog)&&(Tryz.f3.params.all (Tryz.pinned.checked.prog.readableRec ·))&&(namedTie Tryz.pinned.checked.prog jc.named js.vars)&&((jc.stops==[]))&&((Tryz.pinned.checked.prog.stops==[]))&&((jc.knobs==[]))&&((Tryz.pinned.checked.prog.stopKnobs==[])))=true:=kR
theorem j1:(((jc.inPlace==Tryz.pinned.checked.prog.inPlace 3))&&((jc.unfollowed==Tryz.pinned.checked.prog.unfollowed 3))&&((jc.recurses==Tryz.pinned.checked.prog.recurses 3))&&((jc.named==Tryz.pinned.checked.prog.varsNamed 3)))=true:=kR
theorem j2:(((jc.maps==(Tryz.f3.params.toList++js.plain.varTypes Tryz.pinned.checked.prog).any (Tryz.pinned.checked.prog.mapsRec ·)))&&((jc.ifaces==(Tryz.f3.params.toList++js.plain.varTypes Tryz.pinned.checked.prog).any (Tryz.pinned.checked.prog.ifacesRec ·)))&&((jc.mapsOut==Tryz.pinned.checked.prog.mapsAmong Tryz.f3.resultTypes.toList))&&((jc.loops==(Tryz.f3.params.toList++js.plain.varTypes Tryz.pinned.checked.prog).any (Tryz.pinned.checked.prog.loopsFrom ·)))&&((jc.wideKeys==(Tryz.f3.params.toList++js.plain.varTypes Tryz.pinned.checked.prog++Tryz.f3.resultTypes.toList).any (Tryz.pinned.checked.prog.wideKeysFrom ·)))&&(js.vars.all (Tryz.pinned.checked.prog.varReadable ·)))=true:=kR
theorem j3:((Tryz.f3.resultTypes.all (λt=>Tryz.pinned.checked.prog.readableRec t&&decide (t < Tryz.pinned.checked.prog.types.size)))&&((jc.ifacesOut==Tryz.f3.resultTypes.toList.any (Tryz.pinned.checked.prog.ifacesRec ·)))&&((jc.loopsOut==Tryz.f3.resultTypes.toList.any (Tryz.pinned.checked.prog.loopsFrom ·)))&&((jc.plainKeys==Tryz.pinned.checked.prog.plainKeys))&&(jc.shortTexts.isNone)&&(Tryz.pinned.checked.prog.stopsHeard)&&(Tryz.pinned.checked.prog.mayEnter)&&((jc.lifted==Tryz.pinned.checked.prog.liftsFinal))&&((Tryz.pinned.checked.prog.make==some jc.make))&&((jc.kinds==(if jc.domain.isEmpty then [] else Tryz.f3.params.toList.map λt=>match Tryz.pinned.checked.prog.underlying t with|some (.int k)=>some k|_=>none)))&&((jc.pinned==jc.pinnedBy))&&((jc.veiled==(Tryz.f3.params.toList++js.plain.varTypes Tryz.pinned.checked.prog++Tryz.f3.resultTypes.toList).any (Tryz.pinned.checked.prog.veiledRec ·)))&&(jc.veiledFits Tryz.pinned.checked.prog Tryz.f3.params.toList (Tryz.f3.params.toList++js.plain.varTypes Tryz.pinned.checked.prog++Tryz.f3.resultTypes.toList)))=true:=kR
set_option maxRecDepth 100000 in
theorem jAll:joinedFacts Tryz.pinned.checked.prog 3 Tryz.f3 (OpenSpec.ofChange Rows.schemaNamesSpec).bare Rows.schemaNamesRow=true:=(jT (jT (jT (jT (jT (jT (jT (jT (jT (jT (jT (jT (jT (jT (jT (jT (jT (jT (jT (jT (jT (jT (jT (jT (jT (jT (jT (jT (jT (jT (jT (jL (jL (jL (jL (jL (jL (jL (jL j0)))))))) (jR (jL (jL (jL (jL (jL (jL (jL j0))))))))) (jR (jL (jL (jL (jL (jL (jL j0)))))))) (jR (jL (jL (jL (jL (jL j0))))))) (jR (jL (jL (jL (jL j0)))))) (jR (jL (jL (jL j0))))) (jR (jL (jL j0)))) (jR (jL j0))) (jR j0)) (jL (jL (jL j1)))) (jR (jL (jL j1)))) (jR (jL j1))) (jR j1)) (jL (jL (jL (jL (jL j2)))))) (jR (jL (jL (jL (jL j2)))))) (jR (jL (jL (jL j2))))) (jR (jL (jL j2)))) (jR (jL j2))) (jR j2)) (jL (jL (jL (jL (jL (jL (jL (jL (jL (jL (jL (jL j3))))))))))))) (jR (jL (jL (jL (jL (jL (jL (jL (jL (jL (jL (jL j3))))))))))))) (jR (jL (jL (jL (jL (jL (jL (jL (jL (jL (jL j3)))))))))))) (jR (jL (jL (jL (jL (jL (jL (jL (jL (jL j3))))))))))) (jR (jL (jL (jL (jL (jL (jL (jL (jL j3)))))))))) (jR (jL (jL (jL (jL (jL (jL (jL j3))))))))) (jR (jL (jL (jL (jL (jL (jL j3)))))))) (jR (jL (jL (jL (jL (jL j3))))))) (jR (jL (jL (jL (jL j3)))))) (jR (jL (jL (jL j3))))) (jR (jL (jL j3)))) (jR (jL j3))) (jR j3))
theorem said:Rows.SchemaNamesSaid :=
 OpenClaim.holds_of_cond 3 Tryz.f3 C C C C C C C ⟨C,C,C,C,C⟩ C C C C C kR Tryz.func3 jAll
   (of_decide_eq_true kR) (by unfold Func.isWrapper;first|(rw[if_pos (by decide +kernel)];kernel_rfl)|(rw[if_neg (by decide +kernel)];exact⟨C,C⟩))
   (λos started H enc _ F=>by rw[OpenClaim.pre_eq_preRow];exact lifted os started H enc F)
theorem plain(f:FuncId)(fn:Func)(hf:Tryz.pinned.checked.prog.funcNamed Rows.schemaNamesRow.func=some f)(hfn:Tryz.pinned.checked.prog.funcs[f]?=some fn) :
   true=Tryz.pinned.checked.prog.looks []∧∀(j:Nat) t,fn.params[j]?=some t→Tryz.pinned.checked.prog.wantsStandIn t=false:=by
 obtain rfl:f=3:=Option.some.inj ((show Tryz.prog.funcNamed Rows.schemaNamesRow.func=some 3 by kernel_rfl).symm.trans hf) |>.symm;obtain rfl:fn=Tryz.f3:=(Option.some.inj (Tryz.func3.symm.trans hfn)).symm;refine⟨kR,λj t ht=>?_⟩;rw[Tryz.params3] at ht;have hm:=Array.mem_of_getElem? ht;have ht2:t=24∨t=24:=by simpa using hm
 rcases ht2 with rfl|rfl
 · exact (show Tryz.prog.wantsStandIn 24=false by kernel_rfl)
 · exact (show Tryz.prog.wantsStandIn 24=false by kernel_rfl)
end Go.Proofs.YtelmolopaolbcaaGreatDoor.SNames
namespace Go.Proofs.YtelmolopaolbcaaGreatDoor
theorem schemaNames_card:Rows.SchemaNamesCardSaid :=
 Claim7.holds_tied_plain_at .later [] _ _ _ _ SNames.said (λ_ h=>by cases h) kR (λ_ h=>by cases h) schemaNames_row_tie C ⟨C,C⟩ kR C SNames.plain kR
end Go.Proofs.YtelmolopaolbcaaGreatDoor
