/- What it rests on, part 6. -/
import Derived.Test.YtnojaendcldjpaaGreatDoorGt5
set_option linter.unusedVariables false
set_option linter.unusedSimpArgs false
namespace Go.SP
def OU:List lU:=[[102,110],[108,101,116],[114,101,99],[105,102],[115,101,113],[116,117,112,108,101],[99,97,115,101],[116,114,121],[114,97,105,115,101],[116,114,97,110,115,97,99,116],[100,97,116,97],[114,111,111,116],[100,101,102],[100,111]]
def jC:List lU:=[[45,62],[116,117,112,108,101],[114,101,102],[112,114,101,102]]
namespace Aq
def rv(t:Aq):Bool:=t.k==5&&(!OU.contains t.tx&&(!(t.tx==[95])&&!(t.tx.take 1==[39])))
def rh(t:Aq):Bool:=t.rv||(t.k==5&&t.tx==[95])
def rn(t:Aq):Bool:=t.rv&&!jC.contains t.tx
def rt(t:Aq):Bool:=t.k==5&&(t.tx.take 1==[39]&&decide (1<(t.tx.length:Int)))
end Aq
def DB(t:Aq):Fo→lU
 |.nil=>[]
 |.cons h _ _=>if t.k==0&&h.k==5 then h.tx else []
def Fo.allB(p:Aq→Fo→Bool):Fo→Bool
 |.nil=>true
 |.cons t k r=>p t k&&r.allB p
def Fo.names(p:Aq→Fo→List lU):Fo→List lU
 |.nil=>[]
 |.cons t k r=>p t k++r.names p
def WN(l:Fo):Bool:=l.allB λt _=>t.rh
def CU:List lU→Bool
 | []=>true
 |x::l=>!l.contains x&&CU l
def ET:Nat→Aq→Fo→Bool
 |0,_,_=>false
 |n+1,t,k =>
   if t.k==2 then true else if t.k==3 then false else if t.k==4 then true else if t.k==5 then t.rh else if t.k==6 then true
   else match k with
     |.nil=>true
     |.cons h _ l=>if h.k==6&&(decide ((1:Int)≤l.len)&&decide ((l.len:Int)≤8)) then l.allB (ET n)
       else if DB t k==[116,117,112,108,101]&&(decide ((2:Int)≤l.len)&&decide ((l.len:Int)≤8)) then l.allB (ET n) else false
def Iv:Nat→Aq→Fo→List lU
 |0,_,_=>[]
 |n+1,t,k =>
   if t.k==2 then [] else if t.k==3 then [] else if t.k==4 then [] else if t.k==5 then (if t.tx==[95] then [] else [t.tx]) else if t.k==6 then []
   else match k with
     |.nil=>[]
     |.cons _ _ l=>l.names (Iv n)
def C2:Nat→Aq→Fo→Bool
 |0,_,_=>false
 |n+1,t,k =>
   if t.k==0 then match k with
     |.nil=>false
     |.cons h _ l =>
       if DB t k==[] then false
       else if DB t k==[45,62] then decide ((2:Int)≤l.len)&&l.allB (C2 n)
       else if DB t k==[116,117,112,108,101] then (decide ((2:Int)≤l.len)&&decide ((l.len:Int)≤8))&&l.allB (C2 n)
       else if DB t k==[114,101,102]||DB t k==[112,114,101,102] then (l.len:Int)==1&&l.allB (C2 n)
       else (h.rn&&(decide ((1:Int)≤l.len)&&decide ((l.len:Int)≤8)))&&l.allB (C2 n)
   else t.rt||t.rn
def TQ(n:Nat)(ex:Aq→Fo→Bool)(t:Aq)(k:Fo):Bool:=match k with
 |.cons p d (.cons b bk .nil)=>t.k==0&&(ET n p d&&(CU (Iv n p d)&&ex b bk))
 |_=>false
def FY(t:Aq)(k:Fo):Bool:=DB t k==[102,110]
def HE(n:Nat)(ex:Aq→Fo→Bool)(w:lU)(l:Fo):Bool :=
 if w==[102,110] then match l with
   |.cons p D (.cons b bk .nil)=>(p.k==0&&(decide ((1:Int)≤D.len)&&decide ((D.len:Int)≤8)))&&(WN D&&ex b bk)
   |_=>false
 else if w==[108,101,116] then match l with
   |.cons v _ (.cons e d (.cons b bk .nil))=>v.rh&&(ex e d&&ex b bk)
   |_=>false
 else if w==[114,101,99] then match l with
   |.cons v _ (.cons e d (.cons b bk .nil))=>(v.rv&&FY e d)&&(ex e d&&ex b bk)
   |_=>false
 else if w==[105,102] then (l.len:Int)==3&&l.allB ex
 else if w==[115,101,113] then decide ((1:Int)≤l.len)&&l.allB ex
 else if w==[116,117,112,108,101] then (decide ((2:Int)≤l.len)&&decide ((l.len:Int)≤8))&&l.allB ex
 else if w==[99,97,115,101]||w==[116,114,121] then decide ((2:Int)≤l.len)&&(match l with
   |.nil=>false
   |.cons e d h=>ex e d&&h.allB (TQ n ex))
 else if w==[114,97,105,115,101]||w==[116,114,97,110,115,97,99,116] then (l.len:Int)==1&&l.allB ex
 else false
def Cv:Nat→Aq→Fo→Bool
 |0,_,_=>false
 |n+1,t,k =>
   if t.k==2 then true else if t.k==3 then true else if t.k==4 then true else if t.k==5 then t.rv else if t.k==6 then true
   else match k with
     |.nil=>true
     |.cons h _ l =>
       if h.k==6 then (decide ((1:Int)≤l.len)&&decide ((l.len:Int)≤8))&&l.allB (Cv n)
       else if OU.contains (DB t k) then HE n (Cv n) (DB t k) l
       else (decide ((1:Int)≤l.len)&&decide ((l.len:Int)≤8))&&k.allB (Cv n)
def L5(n:Nat)(t:Aq)(k:Fo):Bool:=match k with
 |.nil=>false
 |.cons h _ l=>t.k==0&&(decide ((k.len:Int)≤9)&&(h.k==6&&l.allB (C2 n)))
def RJ(l:Fo):Bool:=l.allB λt _=>t.rt
def AP(n:Nat)(t:Aq)(k:Fo):Bool:=match k with
 |.nil=>false
 |.cons _ _ l =>
   if DB t k==[100,97,116,97] then match l with
     |.cons a _ (.cons b bk (.cons c d r))=>(a.rn&&(b.k==0&&decide ((bk.len:Int)≤8)))&&(RJ bk&&(Fo.cons c d r).allB (L5 n))
     |_=>false
   else if DB t k==[114,111,111,116] then match l with
     |.cons a _ (.cons b bk (.cons c d .nil))=>a.rv&&(C2 n b bk&&Cv n c d)
     |_=>false
   else if DB t k==[100,101,102] then match l with
     |.cons a _ (.cons b bk .nil)=>a.rv&&Cv n b bk
     |_=>false
   else if DB t k==[114,101,99] then match l with
     |.cons a _ (.cons b bk .nil)=>(a.rv&&FY b bk)&&Cv n b bk
     |_=>false
   else if DB t k==[100,111] then (l.len:Int)==1&&l.allB (Cv n)
   else false
abbrev Cn:=lU×lU×Nat×Nat
def O9(d:lU):Nat→Fo→List Cn
 |_,.nil=>[]
 |i,.cons _ k r=>(match k with|.nil=>[]|.cons h _ l=>[(h.tx,d,i,l.len)])++O9 d (i+1) r
def XI(t:Aq)(k:Fo):List Cn:=match k with
 |.cons _ _ (.cons a _ (.cons _ _ r))=>if DB t k==[100,97,116,97] then O9 a.tx 0 r else []
 |_=>[]
def Z6:Fo→List Cn
 |.nil=>[]
 |.cons t k r=>XI t k++Z6 r
def Ho(d:lU):Nat→Nd→List Cn
 |_,.nil=>[]
 |i,.cons op _ _ tx _ k r=>if op==42 then (tx,d,i,k.len)::Ho d (i+1) r else Ho d i r
def Ip:Nd→List Cn
 |.nil=>[]
 |.cons op _ _ tx _ k r=>(if op==41 then Ho tx 0 k else [])++Ip r
end Go.SP
namespace Go.SP
def I7:Nat→Nat→Fo→List Aq→Option (Fo×List Aq×Bool)
 |0,_,_,_=>none
 |_+1,_,acc,[]=>some (acc,[],false)
 |n+1,d,acc,t::l =>
   if t.k==1 then (if d==0 then none else some (acc,l,true))
   else if t.k != 0 then I7 n d (acc.snoc t .nil) l
   else if d==200 then none
   else match I7 n (d+1) .nil l with
     |none=>none
     |some (x,h,true)=>I7 n d (acc.snoc t x) h
     |some (x,h,false)=>some (.cons t x .nil,h,false)
def L8:Nat→List Aq→Nat
 |k,[]=>k
 |k,t::l=>L8 (if t.k==0 then k+1 else if t.k==1 then k-1 else k) l
def fK{α:Type}:R α→Bool
 |.error _=>true
 |.ok _=>false
def RsG(d:Nat)(acc:Fo)(st:List (Aq×Fo))(l:List Aq):Option (Fo×List Aq×Bool)→Prop
 |none=>fK (A7 l st acc)=true
 |some (x,h,true)=>∃o p s,st=(o,p)::s∧A7 l st acc=A7 h s (p.snoc o x)∧L8 d l=L8 (d-1) h∧h.length<l.length
 |some (x,h,false)=>h=[]∧((d=0∧L8 d l=0∧A7 l st acc=.ok x)∨(L8 d l≠0∧fK (A7 l st acc)=true))
theorem Sw:∀(n:Nat)(l:List Aq)(d:Nat)(acc:Fo)(st:List (Aq×Fo)),l.length<n→st.length=d→RsG d acc st l (I7 n d acc l)
 |0,_,_,_,_,h,_=>absurd h (Nat.not_lt_zero _)
 |n+1,[],d,acc,st,_,hd=>by
   refine⟨C,?_⟩
   cases st with
   |nil=>exact .inl ⟨hd.symm,hd.symm,C⟩
   |cons o s =>
     refine .inr ⟨by show d≠0;simp only[List.length_cons] at hd;omega,?_⟩;obtain⟨o,p⟩:=o;unfold A7
     split
     · rfl
     · rfl
 |n+1,t::l,d,acc,st,hn,hd=>by
   simp only[List.length_cons] at hn;have hw:L8 d (t::l)=L8 (if t.k==0 then d+1 else if t.k==1 then d-1 else d) l:=rfl;unfold I7
   split
   · rename_i K
     have Y:(t.k==0)=false:=by rw[beq_iff_eq] at K;rw[K];rfl
     have F:A7 (t::l) st acc=(match (generalizing:=false) st with | []=>.error (t.ln,t.co)|(o,p)::s=>A7 l s (p.snoc o acc)):=by
       conv=>lhs;unfold A7
       rw[Y,K,if_neg (by decide),if_pos C]
       cases st <;> rfl
     rw[Y,K] at hw
     cases st with
     |nil =>
       have:d=0:=hd.symm;subst this;show fK _=true;rw[F];rfl
     |cons o s =>
       have:(d==0)=false:=by simp only[List.length_cons] at hd;simp;omega
       rw[this];obtain⟨o,p⟩:=o;exact⟨o,p,s,C,F,hw,Nat.lt_succ_self _⟩
   · rename_i K
     split
     · rename_i Y
       have D:(t.k==0)=false:=by simpa[bne] using Y
       have F:A7 (t::l) st acc=A7 l st (acc.snoc t .nil):=by
         conv=>lhs;unfold A7
         rw[D,Bool.eq_false_iff.2 K];rfl
       rw[D,Bool.eq_false_iff.2 K] at hw;have hw:L8 d (t::l)=L8 d l:=hw;have O:=Sw n l d (acc.snoc t .nil) st oM hd
       revert O
       cases I7 n d (acc.snoc t .nil) l with
       |none=>intro O;show fK _=true;rw[F];exact O
       |some x =>
         obtain⟨x,Z,b⟩:=x
         cases b with
         |true=>intro ⟨o,p,s,G,Q,J,U⟩;exact⟨o,p,s,G,F.trans Q,hw.trans J,Nat.lt_succ_of_lt U⟩
         |false =>
           intro ⟨G,Q⟩;refine⟨G,?_⟩;rw[F,hw];exact Q
     · rename_i Y
       have D:(t.k==0)=true:=by simpa[bne] using Y
       rw[D] at hw;have hw:L8 d (t::l)=L8 (d+1) l:=hw
       split
       · rename_i G
         have G:d=200:=by simpa using G
         show fK _=true;unfold A7;rw[D,hd,G];rfl
       · rename_i G
         have G:d≠200:=by simpa using G
         have F:A7 (t::l) st acc=A7 l ((t,acc)::st) .nil:=by
           conv=>lhs;unfold A7
           rw[D,hd];simp[G]
         have O:=Sw n l (d+1) .nil ((t,acc)::st) oM (by simp[hd])
         revert O
         cases I7 n (d+1) .nil l with
         |none=>intro O;show fK _=true;rw[F];exact O
         |some x =>
           obtain⟨x,Z,b⟩:=x
           cases b with
           |false =>
             intro ⟨Q,J⟩;refine⟨Q,.inr ?_⟩;rcases J with ⟨J,_⟩|⟨J,U⟩
             · omega
             · rw[F,hw];exact⟨J,U⟩
           |true =>
             intro ⟨o,p,s,Q,J,U,h6⟩
             cases Q
             have W:=Sw n Z d (acc.snoc t x) st oM hd;simp only[Nat.add_sub_cancel] at U
             revert W
             dsimp only
             cases I7 n d (acc.snoc t x) Z with
             |none=>intro W;show fK _=true;rw[F,J];exact W
             |some y =>
               obtain⟨y,l2,b⟩:=y
               cases b with
               |true=>intro ⟨o,p,s,h7,h8,h9,h10⟩;exact⟨o,p,s,h7,(F.trans J).trans h8,(hw.trans U).trans h9,by simp only[List.length_cons];omega⟩
               |false =>
                 intro ⟨h7,h8⟩;refine⟨h7,?_⟩;rw[F,J,hw,U];exact h8
theorem fS{l:List Aq}(h:I7 (l.length+1) 0 .nil l=none):fK (A7 l [] .nil)=true:=by
 have:=Sw (l.length+1) l 0 .nil [] (Nat.lt_succ_self _) C;rw[h] at this;exact this
theorem kA{l D:List Aq}{x:Fo}{b:Bool}(h:I7 (l.length+1) 0 .nil l=some (x,D,b)):(L8 0 l=0∧A7 l [] .nil=.ok x)∨(L8 0 l≠0∧fK (A7 l [] .nil)=true):=by
 have:=Sw (l.length+1) l 0 .nil [] (Nat.lt_succ_self _) C;rw[h] at this
 cases b with
 |true=>obtain⟨o,p,s,F,_⟩:=this;cases F
 |false=>exact this.2.imp (λh=>h.2) id
end Go.SP
namespace Go.SP
theorem Fo.snoc_app:∀(x:Fo)(t:Aq)(k:Fo),x.snoc t k=x.app (.cons t k .nil)
 |.nil,_,_=>rfl
 |.cons a b x,t,k=>by show Fo.cons a b (x.snoc t k)=Fo.cons a b (x.app _);rw[Fo.snoc_app x t k]
theorem Fo.len_app2:∀x y:Fo,(x.app y).len=x.len+y.len
 |.nil,y=>(Nat.zero_add _).symm
 |.cons _ _ r,y=>by show (r.app y).len+1=r.len+1+y.len;rw[Fo.len_app2 r y];omega
section
variable{m n d i:Nat}{acc:Fo}{t:Aq}{l L:List Aq}
theorem rV(hm:0<m):I7 m d acc []=some (acc,[],false):=by
 obtain⟨n,rfl⟩:∃n,m=n+1:=⟨m-1,oM⟩;rfl
theorem Xp(h:(t.k==1)=true)(D:((d:Int)==0)=true):I7 (n+1) d acc (t::l)=none:=by
 unfold I7;rw[h,if_pos C,if_pos (by simp only[beq_iff_eq] at D ⊢;omega)]
theorem ZK(h:(t.k==1)=true)(D:((d:Int)==0)=false):I7 (n+1) d acc (t::l)=some (acc,l,true):=by
 unfold I7;rw[h,if_pos C,if_neg (by simp only[beq_iff_eq,beq_eq_false_iff_ne,ne_eq] at D ⊢;omega)]
theorem fU(h:(t.k==1)=false)(D:(t.k != 0)=true):I7 (n+1) d acc (t::l)=I7 n d (acc.snoc t .nil) l:=by
 conv=>lhs;unfold I7
 rw[h,D,if_neg (by decide),if_pos C]
theorem kK(h:(t.k==1)=false)(D:(t.k != 0)=false)(F:((d:Int)==200)=true):I7 (n+1) d acc (t::l)=none:=by
 unfold I7;rw[h,D,if_neg (by decide),if_neg (by decide),if_pos (by simp only[beq_iff_eq] at F ⊢;omega)]
theorem RC(D:(t.k==1)=false)(F:(t.k != 0)=false)(G:((d:Int)==200)=false):I7 (n+1) d acc (t::l)=(match I7 n (d+1) .nil l with
     |none=>none
     |some (x,h,true)=>I7 n d (acc.snoc t x) h
     |some (x,h,false)=>some (.cons t x .nil,h,false)):=by
 conv=>lhs;unfold I7
 rw[D,F,if_neg (by decide),if_neg (by decide),if_neg (by simp only[beq_iff_eq,beq_eq_false_iff_ne,ne_eq] at G ⊢;omega)]
def yH(L:List Aq)(r:Option (Fo×List Aq×Bool))(i2:Nat)(x:Fo)(b bad:Bool):Prop:=i2≤L.length∧match r with
 |none=>bad=true
 |some (y,h,D)=>bad=false∧x=y∧b=D∧h=L.drop i2
theorem Nv:∀{m d:Nat}{acc:Fo}{l D:List Aq}{x:Fo}{b:Bool},I7 m d acc l=some (x,D,b)→D.length≤l.length∧x.len≤acc.len+l.length
 |0,_,_,_,_,_,_,h=>by cases h
 |m+1,d,acc,[],D,x,b,h=>by cases h;exact⟨Nat.le_refl _,by simp⟩
 |m+1,d,acc,t::l,D,x,b,h=>by
   unfold I7 at h
   split at h
   · split at h
     · cases h
     · cases h;simp
   · split at h
     · have:=Nv h;rw[Fo.snoc_app,Fo.len_app2] at this;simp only[Fo.len,List.length_cons] at this ⊢;omega
     · split at h
       · cases h
       · split at h
         · cases h
         · rename_i y J F
           have G:=Nv F;have:=Nv h;rw[Fo.snoc_app,Fo.len_app2] at this;simp only[Fo.len,List.length_cons] at this ⊢;omega
         · rename_i y J F
           have G:=Nv F
           cases h;simp only[Fo.len,List.length_cons] at G ⊢;omega
end
end Go.SP
namespace Go.SP
variable {i2 k:Nat}
theorem yH.ok{L:List Aq}{r:Option (Fo×List Aq×Bool)}{x:Fo}{b:Bool}(h:yH L r i2 x b false):i2≤L.length∧r=some (x,L.drop i2,b):=by
 obtain⟨F,D⟩:=h
 cases r with
 |none=>cases D
 |some y=>obtain⟨y,G,J⟩:=y;obtain⟨_,rfl,rfl,rfl⟩:=D;exact⟨F,C⟩
theorem yH.bad{L:List Aq}{r:Option (Fo×List Aq×Bool)}{x:Fo}{b:Bool}(h:yH L r i2 x b true):i2≤L.length∧r=none:=by
 obtain⟨D,F⟩:=h
 cases r with
 |none=>exact⟨D,C⟩
 |some y=>obtain⟨y,G,J⟩:=y;cases F.1
theorem mG{m d i:Nat}{acc x:Fo}{L:List Aq}{b:Bool}(h:I7 m d acc (L.drop (i+1))=some (x,L.drop i2,b))(D:i<L.length)(F:i2≤L.length):i+1≤i2∧x.len≤acc.len+L.length:=by
 have:=Nv h;rw[List.length_drop,List.length_drop] at this;omega
theorem QY{i:Nat}{t:Aq}{L:List Aq}(h:L.drop i=t::L.drop (i+1)):L8 k (L.drop i)=L8 (if t.k==0 then k+1 else if t.k==1 then k-1 else k) (L.drop (i+1)):=by rw[h];rfl
theorem zJ{i:Nat}{t:Aq}{L:List Aq}(h:L.drop i=t::L.drop (i+1))(D:(t.k==0)=true):L8 k (L.drop i)=L8 (k+1) (L.drop (i+1)):=by rw[QY h,if_pos D]
theorem dU{i:Nat}{t:Aq}{L:List Aq}(h:L.drop i=t::L.drop (i+1))(D:(t.k==0)=false)(F:(t.k==1)=true):L8 k (L.drop i)=L8 (k-1) (L.drop (i+1)):=by rw[QY h,if_neg (by rw[D];decide),if_pos F]
theorem wt_no{i:Nat}{t:Aq}{L:List Aq}(h:L.drop i=t::L.drop (i+1))(D:(t.k==0)=false)(F:(t.k==1)=false):L8 k (L.drop i)=L8 k (L.drop (i+1)):=by rw[QY h,if_neg (by rw[D];decide),if_neg (by rw[F];decide)]
end Go.SP
namespace Go.Proofs.YtnojaendcldjpaaGreatDoor
open Go.SW Go.SP Go.RowKit Go.Proofs.Tryz
theorem tin(w:wO)(f:Fq)(Q:Vl w f)(u:lU)(l:List lU)(a:oA)(c:Nat)(hl:l.length≤1000000)(U:Dc sC w f l a c) :
   AX prog 94 #[S u,.slice a l.length c] w (AU (α:=Unit) (λ_=>.bool (l.contains u)) (λ_=>True) (λ_=>[]) w f):=by
 refine Ed [λw f=>Dc sC w f l a c] func94 C C C (Be Q ⟨U,tQ⟩ ⟨Dc.mono,tQ⟩)<|Aa 12 (λ_=>?_);refine DK (α:=Nat) (λi=>l.length-i) (λi=>i≤l.length∧(l.take i).contains u=false) (λi=>(E3 0 (S u) 1 (.slice a l.length c) 5 (.int .i64 (i:Int)))) (λi=>X0 w f) (λi=>[]) (λi=>[]) (λi=>[]) (λi=>[λw f=>Dc sC w f l a c]) (0) ⟨Nat.zero_le _,C⟩ lE (λw f d=>d) ?_;rintro i ⟨hi,D⟩;refine Aa 9 (λ_=>Ap 9 C C (λF=>?_) (λF=>?_));refine Aa 6 (λ_=>?_);have K:i<l.length:=by have:=dT F;omega
 obtain⟨v0,L⟩:∃v,l[i]?=some v:=⟨_,List.getElem?_eq_getElem K⟩;refine Hh (α:=Nat×Nat) (λx=>a=some ⟨x.1,x.2,none⟩) (λx=>[⟨x.1,x.2+i*1,[S v0]⟩]) (λx=>[]) (λw f d=>let ⟨b,off,F,G⟩:=Dc.get 1 (λ_=>C) d.f0 L;⟨(b,off),F,(oE G),λ_ h=>by cases h⟩) (λx=>Au.mem tQ) ?_;rintro⟨b,off⟩ rfl;refine Ae 9 [100,0] (And.intro oM<|y2<|λ_=>Ap 17 C C (λG=>?_) (λG=>?_));exact Aa 9 (λ_=>Hf<|Aa 2 (λ_=>A5 (Cb C C) (λw f d=>⟨(),f,(by rw[show l.contains u=true from (by rw[← eq_of_beq G];exact List.contains_iff_mem.2 (List.mem_of_getElem? L))]),tQ,d.exm,tQ⟩)));refine Aa 9 (And.intro ⟨oM,oM⟩<|λ_=>?_);have J:(l.take (i+1)).contains u=false:=by rw[CZ L];have W:¬v0=u:=(by simpa using G);have Y:u∉l.take i:=(by simpa using D);have Z:¬u=v0:=λe=>W e.symm;simp[Z,Y]
 exact Ce (i+1) (show l.length-(i+1)<l.length-i by omega) ⟨show i+1≤_ by omega,J⟩ lE (λw f d=>⟨_,d.less sR sR nE (λ_ h=>h)⟩);refine Aa 3 (λ_=>Df<|Aa 8 (λ_=>?_));have O:l.length≤i:=by have:=dF F;omega
 rw[List.take_of_length_le O] at D;exact A5 (Cb C C) (λw f d=>⟨(),f,(by rw[D]),tQ,d.exm,tQ⟩)
theorem pR(w:wO)(f:Fq)(h:Vl w f)(u:lU) :
   AX prog 96 #[S u] w (AU (α:=Unit) (λ_=>.bool (OU.contains u)) (λ_=>True) (λ_=>[]) w f):=by
 exact Ed [] func96 C C C (Be h tQ tQ)<|Aa 9 (λb1=>λ_=>Di 0 C C<|BO C C (eC cE C C) (λw f d=>tin w f d.vl u OU (some ⟨b1,0,none⟩) 14 dC ⟨Nat.le_refl _,.inr ⟨b1,0,C,d.b0⟩⟩)<|Aa 4 (λ_=>A5 (Cb C C) (λw f d=>⟨(),f,C,tQ,d.exm,tQ⟩)))
theorem Lf(w:wO)(f:Fq)(d:Vl w f)(t:Aq)(a:oA)(n c:Nat) :
   AX prog 61 #[fV t a n c] w (AU (α:=Unit) (λ_=>.bool (t.k==0)) (λ_=>True) (λ_=>[]) w f):=by
 exact Ed [] func61 C C C (Be d tQ tQ)<|Ae 16 [0] (λb1=>y<|λ_=>A5 (Cb C C) (λw f h=>⟨(),f,C,tQ,h.exm,tQ⟩))
theorem Ka(w:wO)(f:Fq)(J:Vl w f)(t:Aq)(a:oA)(n c:Nat)(F:t.k=5→t.tx≠[]) :
   AX prog 64 #[fV t a n c] w (AU (α:=Unit) (λ_=>.bool t.rv) (λ_=>True) (λ_=>[]) w f):=by
 refine Ed [] func64 C C C (Be J tQ tQ)<|Ae 13 [0] (λb1=>y<|λ_=>?_)
 · refine Ap 7 C C (λD=>?_) (λD=>?_)
   refine Ae 3 [0] (y<|λ_=>BO C C (eC eR C C) (λw f d=>pR w f d.vl t.tx)<|Aa 3 (λ_=>Ap 14 C C (λh=>?_) (λh=>?_)));replace h:=B5 h;refine Ae 6 [0] (y<|λ_=>Ap 20 C C (λG=>?_) (λG=>?_));refine Ae 3 [0] (y<|λ_=>?_);have K:1≤t.tx.length:=by rcases L:t.tx with _|⟨O,xs⟩;(exact absurd L (F (eq_of_beq D)));(simp)
   refine BN C C (λw f d=>F9 C C LM ⟨dC,oM⟩)<|Aa 6 (λ_=>?_)
   rotate_left
   refine Aa 10 (λ_=>?_)
   rotate_left
   replace h:=B3 h;exact Aa 16 (λ_=>A5 (Cb C C) (λw f d=>⟨(),f,(congrArg Value.bool (by unfold Aq.rv;rw[D,h];rfl)),tQ,d.exm,tQ⟩));exact Aa 23 (λ_=>A5 (Cb C C) (λw f d=>⟨(),f,(congrArg Value.bool (by unfold Aq.rv;rw[D];rfl)),tQ,d.exm,tQ⟩))
   all_goals
     exact A5 (Cb C C) (λw f d=>⟨(),f,(congrArg Value.bool (by unfold Aq.rv;rw[D,h,G];rfl)),tQ,d.exm,tQ⟩)

theorem oH(w:wO)(f:Fq)(G:Vl w f)(t:Aq)(a:oA)(n c:Nat)(h:t.k=5→t.tx≠[]) :
   AX prog 127 #[fV t a n c] w (AU (α:=Unit) (λ_=>.bool t.rh) (λ_=>True) (λ_=>[]) w f):=by
 refine Ed [] func127 C C C (Be G tQ tQ)<|Ae 9 [0] (λb1=>y<|λ_=>BO C C (eC Kv C C) (λw f d=>Ka w f d.vl t a n c h)<|Aa 1 (λ_=>?_))
 · refine Ap 5 C C (λD=>?_) (λD=>?_)
   exact Aa 15 (λ_=>A5 (Cb C C) (λw f d=>⟨(),f,(congrArg Value.bool (by unfold Aq.rh;rw[D];rfl)),tQ,d.exm,tQ⟩));refine Ae 5 [0] (y<|λ_=>Ap 10 C C (λF=>?_) (λF=>?_));refine Ae 10 [0] (y<|λ_=>?_)
   rotate_left
   refine Aa 10 (λ_=>?_)
   all_goals
     exact A5 (Cb C C) (λw f d=>⟨(),f,(congrArg Value.bool (by unfold Aq.rh;rw[D,F];rfl)),tQ,d.exm,tQ⟩)

theorem Vm(w:wO)(f:Fq)(F:Vl w f)(t:Aq)(a:oA)(n c:Nat)(h:t.k=5→t.tx≠[]) :
   AX prog 60 #[fV t a n c] w (AU (α:=Unit) (λ_=>.bool t.rn) (λ_=>True) (λ_=>[]) w f):=by
 refine Ed [] func60 C C C (Be F tQ tQ)<|Ae 9 [0] (λb1=>y<|λ_=>BO C C (eC Kv C C) (λw f d=>Ka w f d.vl t a n c h)<|Aa 1 (λ_=>?_))
 · refine Ap 5 C C (λD=>?_) (λD=>?_)
   refine Ae 4 [0] (y<|λb2=>λ_=>Di 0 C C<|BO C C (eC cE C C) (λw f d=>tin w f d.vl t.tx jC (some ⟨b2,0,none⟩) 4 dC ⟨Nat.le_refl _,.inr ⟨b2,0,C,d.b0⟩⟩)<|Aa 6 (λ_=>?_))
   rotate_left
   refine Aa 11 (λ_=>?_)
   all_goals
     exact A5 (Cb C C) (λw f d=>⟨(),f,(congrArg Value.bool (by unfold Aq.rn;rw[D];rfl)),tQ,d.exm,tQ⟩)

theorem pH(w:wO)(f:Fq)(G:Vl w f)(t:Aq)(a:oA)(n c:Nat)(D:t.k=5→t.tx≠[]) :
   AX prog 62 #[fV t a n c] w (AU (α:=Unit) (λ_=>.bool t.rt) (λ_=>True) (λ_=>[]) w f):=by
 refine Ed [] func62 C C C (Be G tQ tQ)<|Ae 13 [0] (λb1=>y<|λ_=>Ap 7 C C (λh=>?_) (λh=>?_));refine Ae 3 [0] (y<|λ_=>?_);have J:1≤t.tx.length:=by rcases K:t.tx with _|⟨L,xs⟩;(exact absurd K (D (eq_of_beq h)));(simp)
 refine BN C C (λw f d=>F9 C C LM ⟨dC,oM⟩)<|Aa 3 (λ_=>Ap 14 C C (λF=>?_) (λF=>?_));exact Ae 10 [0] (y<|λ_=>A5 (Cb C C) (λw f d=>⟨(),f,(congrArg Value.bool (by unfold Aq.rt;rw[h,(show (t.tx.take 1==[39])=true from F)];rfl)),tQ,d.exm,tQ⟩));exact Aa 10 (λ_=>A5 (Cb C C) (λw f d=>⟨(),f,(congrArg Value.bool (by unfold Aq.rt;rw[h,(show (t.tx.take 1==[39])=false from F)];rfl)),tQ,d.exm,tQ⟩));exact Aa 17 (λ_=>A5 (Cb C C) (λw f d=>⟨(),f,(congrArg Value.bool (by unfold Aq.rt;rw[h];rfl)),tQ,d.exm,tQ⟩))
theorem KQ(w:wO)(f:Fq)(J:Vl w f)(t:Aq)(k:Fo)(a:oA)(c:Nat)(K:Bq w f k a c) :
   AX prog 58 #[fV t a k.len c] w (AU (α:=Unit) (λ_=>S (DB t k)) (λ_=>True) (λ_=>[]) w f):=by
 refine Ed [λw f=>Bq w f k a c] func58 C C C (Be J ⟨K,tQ⟩ ⟨Bq.mono,tQ⟩)<|Aa 8 (λb1=>λ_=>?_)
 · rcases Fo.nc k with rfl|⟨h,L,r,rfl⟩
   refine Ae 2 [0] (y<|λ_=>BO C C (eC HQ C C) (λw f d=>Lf w f d.vl t _ _ _)<|Aa 1 (λ_=>Ap 5 C C (λD=>?_) (λD=>?_)));refine Ae 6 [0] (y<|λ_=>Ap 11 C C (λF=>?_) (λF=>?_));simp[Fo.len] at F;exact Aa 19 (λ_=>A5 (Cb C C) (λw f d=>⟨(),f,(congrArg S (rfl)),tQ,d.exm,tQ⟩));exact Aa 25 (λ_=>A5 (Cb C C) (λw f d=>⟨(),f,(congrArg S (rfl)),tQ,d.exm,tQ⟩));refine JN 0 C<|Hr 0 C ?_;rintro⟨O,Q,ka,kc⟩ rfl;refine Ae 2 [0] (y<|λ_=>BO C C (eC HQ C C) (λw f d=>Lf w f d.vl t _ _ _)<|Aa 1 (λ_=>Ap 5 C C (λD=>?_) (λD=>?_)));refine Ae 6 [0] (y<|λ_=>Ap 11 C C (λF=>?_) (λF=>?_));refine Ae 10 [0,100,0] (y<|And.intro (by simp only[Fo.len];omega)<|y2<|λ_=>Ap 19 C C (λG=>?_) (λG=>?_));refine Ae 14 [0,100,4] (y<|And.intro (by simp only[Fo.len];omega)<|y2<|λ_=>?_)
   rotate_left
   refine Aa 9 (λ_=>?_)
   rotate_left
   exact absurd (show (0:Int)<((r.len+1:Nat):Int) by omega) (dF F);exact Aa 25 (λ_=>A5 (Cb C C) (λw f d=>⟨(),f,(congrArg S (by show _=(if t.k==0&&h.k==5 then h.tx else []);rw[D];rfl)),tQ,d.exm,tQ⟩))
   all_goals
     exact A5 (Cb C C) (λw f d=>⟨(),f,(congrArg S (by show _=(if t.k==0&&h.k==5 then h.tx else []);rw[D,G];rfl)),tQ,d.exm,tQ⟩)

theorem Zm(w:wO)(f:Fq)(Q:Vl w f)(rb:Nat)(L:List Aq)(D:oA)(lc i:Nat)(G c0 J K:Int)(O:L7 84 rb D L.length lc i false G c0 w f)(U:f rb=0) :
   AX prog 57 #[.pointer (some ⟨rb,0,none⟩),.agg #[.int .i64 J,.int .i64 K]] w (EF (α:=Unit) (λ_=>.tuple #[]) (λ_=>True) (λb=>b=rb) (λ_=>L7 84 rb D L.length lc i true J K) (λ_=>[]) w f):=by
 exact Gb (X:=⟨λb=>b=rb,λb=>b=rb,L7 84 rb D L.length lc i false G c0,w,f⟩) (H:=[]) (R:=[]) (B:=[]) (Fs:=[]) (f:=f) func57 C C C (JF (M:=λb=>b=rb) (I:=L7 84 rb D L.length lc i false G c0) Q O L7.stab (λb F=>by cases F;exact⟨AS.lt O,U⟩) tQ tQ)<|Aa 10 (λb1=>λ_=>BN C C (λw f d=>Ai C H8 d.res C)<|Aa 9 (λ_=>ZZ (b:=rb) (I':=L7 84 rb D L.length lc i true G c0) C C C C H8 C C C C (λw f h=>h) (λw f W h d Y F=>F) L7.stab<|Ae 7 [0] (y<|λ_=>ZZ (b:=rb) (I':=L7 84 rb D L.length lc i true J K) C C C C Dx C C C C (λw f h=>h) (λw f W h d Y F=>F) L7.stab<|Aa 1 (λ_=>kC (λw f d=>Gz C) (λw f d=>⟨(),f,C,tQ,d.exm,d.res,tQ⟩)))))
abbrev SoT(m:Nat):Prop:=∀(w:wO)(f:Fq)(_:Vl w f)(rb:Nat)(L:List Aq)(h:oA)(lc i0 d:Nat)(D c0:Int),L.length≤100000→d≤200→i0≤L.length→L.length<m+i0→L7 84 rb h L.length lc i0 false D c0 w f→f rb=0→Dc Wv w f L h lc→AX prog 28 #[.pointer (some ⟨rb,0,none⟩),.int .i64 d] w (EF (α:=Nat×Fo×oA×Nat×Bool×Bool×Int×Int) (λy=>.tuple #[.slice y.2.2.1 y.2.1.len y.2.2.2.1,.bool y.2.2.2.2.1]) (λy=>yH L (I7 m d .nil (L.drop i0)) y.1 y.2.1 y.2.2.2.2.1 y.2.2.2.2.2.1) (λb=>b=rb) (λy=>L7 84 rb h L.length lc y.1 y.2.2.2.2.2.1 y.2.2.2.2.2.2.1 y.2.2.2.2.2.2.2) (λy=>[λw f=>Bq w f y.2.1 y.2.2.1 y.2.2.2.1]) w f)
theorem V1(m:Nat)(ih:∀j,j<m→SoT j)(w:wO)(f:Fq)(hv:Vl w f)(rb:Nat)(L:List Aq)(O:oA)(lc i0 d:Nat)(l0 c0:Int)(hL:L.length≤100000)(hdd:d≤200)(hi0:i0≤L.length)(hm0:L.length<m+i0)(hX:L7 84 rb O L.length lc i0 false l0 c0 w f)(hf:f rb=0)(hI:Dc Wv w f L O lc) :
   AX prog 28 #[.pointer (some ⟨rb,0,none⟩),.int .i64 d] w (EF (α:=Nat×Fo×oA×Nat×Bool×Bool×Int×Int) (λy=>.tuple #[.slice y.2.2.1 y.2.1.len y.2.2.2.1,.bool y.2.2.2.2.1]) (λy=>yH L (I7 m d .nil (L.drop i0)) y.1 y.2.1 y.2.2.2.2.1 y.2.2.2.2.2.1) (λb=>b=rb) (λy=>L7 84 rb O L.length lc y.1 y.2.2.2.2.2.1 y.2.2.2.2.2.2.1 y.2.2.2.2.2.2.2) (λy=>[λw f=>Bq w f y.2.1 y.2.2.1 y.2.2.2.1]) w f):=by
 refine Gb (X:=⟨λb=>b=rb,λb=>b=rb,L7 84 rb O L.length lc i0 false l0 c0,w,f⟩) (H:=[]) (R:=[]) (B:=[]) (Fs:=[λw f=>Dc Wv w f L O lc]) (f:=f) func28 C C C (JF (M:=λb=>b=rb) (I:=L7 84 rb O L.length lc i0 false l0 c0) hv hX L7.stab (λb hb=>by cases hb;exact⟨AS.lt hX,hf⟩) ⟨hI,tQ⟩ ⟨Dc.mono,tQ⟩)<|Aa 13 (λ_=>LY 99 6 ?_);refine DK (α:=Nat×Nat×Fo×lV×oA×Nat×Int×Int) (λx=>L.length-x.1) (λx=>x.1≤L.length∧L.length<x.2.1+x.1∧x.2.1≤m∧x.2.2.1.len≤x.1∧I7 x.2.1 d x.2.2.1 (L.drop x.1)=I7 m d .nil (L.drop i0)) (λx=>(E3 0 (.pointer (some ⟨rb,0,none⟩)) 1 (.int .i64 d) 6 (.slice x.2.2.2.2.1 x.2.2.1.len x.2.2.2.2.2.1))) (λx=>⟨λb=>b=rb,λb=>b=rb,L7 84 rb O L.length lc x.1 false x.2.2.2.2.2.2.1 x.2.2.2.2.2.2.2,w,f⟩) (λx=>[]) (λx=>[⟨99,6,x.2.2.2.2.1,x.2.2.2.2.2.1,x.2.2.1.len,x.2.2.2.1⟩]) (λx=>[]) (λx=>[λw f=>Dc Wv w f L O lc,λw f=>GV w f x.2.2.1 x.2.2.2.1]) ((i0,m,.nil,[],none,0,l0,c0)) ⟨hi0,hm0,Nat.le_refl _,Nat.zero_le _,C⟩ lE (λw f D=>D.more (B':=[]) (F':=[λw f=>GV w f .nil []]) nE (AR.mem ⟨C,tQ⟩) (Au.mem ⟨GV.mono,tQ⟩) |>.less sR sR nE (mR [1,0])) ?_;rintro⟨i,m2,acc,xs,oa,oc,W,Y⟩ ⟨hi,hm2,hmm,hac,G⟩;dsimp only at hi hm2 hmm hac G ⊢;refine Aa 2 (λ_=>RL (λw=>AS w rb [.slice O L.length lc,.int .i64 i,.bool false,.int .i64 W,.int .i64 Y] 84) (λw f h _=>h) [] Aj (rd [0,1,2,3,4,5,6,7,8,9,10,11,12,13,14,15,16] .fin) C kR kR kR (λ_ _ _ _ _ h=>h)<|Bf 3 (λ_=>Iz C C C (λw Z=>Ai C IL Z.2.2 C)<|Bf 3 (λ_=>Iz C C C (λw Z=>Ai C qE Z.2.2 C)<|Bf 3 (λ_=>?_))))
 · refine Iy 20 C (λh1=>?_) (λh1=>?_)
   refine Bf 3 (λ_=>Iz C C C (λw Z=>Ai C H8 Z.2.2 C)<|Bf 2 (λ_=>BG<|Aa 6 (λ_=>?_)));have hil:i<L.length:=by have:=dT h1;omega
   obtain⟨t,ht⟩:∃t,L[i]?=some t:=⟨_,List.getElem?_eq_getElem hil⟩;have hd:L.drop i=t::L.drop (i+1):=by rw[List.drop_eq_getElem_cons hil,(List.getElem?_eq_some_iff.1 ht).2]
   refine Hh (α:=Nat×Nat) (λx=>O=some ⟨x.1,x.2,none⟩) (λx=>[⟨x.1,x.2+i*5,Wv t⟩]) (λx=>[]) (λw f D=>let ⟨b,off,h1,Q⟩:=Dc.get 5 (λ_=>C) D.f0 ht;⟨(b,off),h1,(oE Q),λ_ h=>by cases h⟩) (λx=>Au.mem tQ) ?_;rintro⟨tb,tq⟩ rfl;obtain⟨m3,rfl⟩:∃q,m2=q+1:=⟨m2-1,oM⟩;refine RL (λw=>AS w rb [.slice (some ⟨tb,tq,none⟩:oA) L.length lc,.int .i64 i,.bool false,.int .i64 W,.int .i64 Y] 84) (λw f h _=>h) [] Aj (rd [0,1,2,3,4,5,6,7,8,9] (.br 10 (.br 11 .fin .fin) .fin)) C kR kR kR (λ_ _ _ _ _ h=>h)<|Bf 3 (λ_=>Iz C C C (λw Z=>Ai C qE Z.2.2 C)<|Bf 3 (λ_=>Iz C C C (λw Z=>Ai C IL Z.2.2 C)<|By 2 [100,0] (And.intro oM<|y2<|λ_=>Ak C<|Aa 2 (λb1=>λ_=>Bv [] (λw f h _=>h) C (λ_ h=>h)<|Ak C ?_))));refine Ae 2 [0] (y<|λ_=>Bv [] (λw f h _=>h) C (λ_ h=>h)<|BG<|Aa 6 (λ_=>BN C C (λw f D=>Ai C IL D.res C)<|Aa 3 (And.intro ⟨oM,oM⟩<|λ_=>ZZ (b:=rb) (I':=L7 84 rb (some ⟨tb,tq,none⟩:oA) L.length lc (i+1) false W Y) C C C C IL C C C C (λw f h=>h) (λw f w2 h D hC hb=>hb) L7.stab<|Ae 10 [0] (y<|λ_=>Ap 46 C C (λQ=>?_) (λQ=>?_)))));refine Aa 8 (λ_=>Ap 48 C C (λU=>?_) (λU=>?_));refine Ae 5 [0] (y<|λ_=>CI (XX:=λ_ _=>False) C C (eC YP C C) (λw f D=>(Zm w f D.vl rb L (some ⟨tb,tq,none⟩:oA) lc (i+1) W Y t.ln t.co D.res (D.mi rb C).2.1).retP) (λ_=>L7.stab) (λ_=>trivial) (λ_ _ _ _ _ h=>h.elim) ?_);rintro⟨⟩ -;refine Aa 12 (λ_=>Hf<|Aa 2 (λ_=>?_));rw[hd] at G;rw[Xp Q U] at G
   rotate_left
   refine Aa 13 (λ_=>Hf<|Aa 2 (λ_=>?_));rw[hd] at G;rw[ZK Q U] at G;exact A5 (λw f D=>Bl C (Af C) (Af C)) (λw f D=>let ⟨f2,F,hF⟩:=Qn D D.f1;⟨(i+1,acc,oa,oc,true,false,W,Y),f2,C,⟨by show i+1≤_;omega,by rw[← G];exact⟨C,C,C,C⟩⟩,F.exm,F.res,⟨hF,tQ⟩⟩);refine Ae 11 [0] (y<|λ_=>Ap 56 C C (λU=>?_) (λU=>?_));refine Ae 7 [0] (y<|λb2=>λ_=>Dd 0 0 C C oD C C C C C C C C (λ_ _=>C) oM oM λoa2 oc2=>Aa 6 (λ_=>?_));have J:I7 m3 d (acc.snoc t (Fo.nil)) (L.drop (i+1))=I7 m d .nil (L.drop i0):=by rw[hd,fU Q U] at G;exact G
   rw[Fo.snoc_app] at J;exact Ce ((i+1,m3,acc.app (.cons t (Fo.nil) .nil),xs++LQ t none (Fo.nil).len 0,oa2,oc2,W,Y)) (show L.length-(i+1)<L.length-i by omega) ⟨show i+1≤_ by omega,show L.length<m3+(i+1) by omega,show m3≤m by omega,(by show (acc.app (.cons t (Fo.nil) .nil)).len≤i+1;rw[Fo.len_app2];show acc.len+1≤_;omega),J⟩ ((by have e:(acc.app (.cons t (Fo.nil) .nil)).len=acc.len+1:=(Fo.len_app2 _ _);dsimp only;rw[e];exact Av lE C)) (λw f D=>⟨_,(by have e:(acc.app (.cons t (Fo.nil) .nil)).len=acc.len+1:=(Fo.len_app2 _ _);dsimp only;rw[e];exact (D.more (B':=[]) (F':=[λw f=>GV w f (acc.app (.cons t (Fo.nil) .nil)) (xs++LQ t none (Fo.nil).len 0)]) nE (AR.mem ⟨GV.app (GV.one (Bq.nil _ _ _ _)) D.f1,tQ⟩) (Au.mem ⟨GV.mono,tQ⟩)).less (List.nil_sublist _) sR nE (mR [1,0]))⟩);refine Aa 10 (λ_=>Ap 63 C C (λh4=>?_) (λh4=>?_));refine Ae 6 [0] (y<|λ_=>CI (XX:=λ_ _=>False) C C (eC YP C C) (λw f D=>(Zm w f D.vl rb L (some ⟨tb,tq,none⟩:oA) lc (i+1) W Y t.ln t.co D.res (D.mi rb C).2.1).retP) (λ_=>L7.stab) (λ_=>trivial) (λ_ _ _ _ _ h=>h.elim) ?_);rintro⟨⟩ -;refine Aa 12 (λ_=>Hf<|Aa 2 (λ_=>?_));rw[hd] at G;rw[kK Q U h4] at G
   rotate_left
   refine Aa 8 (And.intro ⟨oM,oM⟩<|λ_=>CI (XX:=λ_ _=>False) C C (eC Zw C C) (λw f D=>(ih m3 oM w f D.vl rb L (some ⟨tb,tq,none⟩:oA) lc (i+1) (d+1) W Y hL (by have:=ne_of_beq_false h4;omega) oM oM D.res (D.mi rb C).2.1 D.f0).retP) (λ_=>L7.stab) (λ_=>⟨Bq.mono,tQ⟩) (λ_ _ _ _ _ h=>h.elim) ?_);rintro⟨i2,x1,ka,kc,cl,bd,l5,c5⟩ hq;dsimp only at hq ⊢;refine Aa 13 (λ_=>BN C C (λw f D=>Ai C H8 D.res C)<|Aa 2 (λ_=>Ap 79 C C (λh5=>?_) (λh5=>?_)));refine Aa 11 (λ_=>Hf<|Aa 2 (λ_=>?_));rw[hd] at G;obtain rfl:bd=true:=h5;obtain⟨hi2,K⟩:=hq.bad;rw[RC Q U h4,K] at G;exact A5 (λw f D=>Bl C (Af C) (Af C)) (λw f D=>let ⟨f2,F,hF⟩:=Qn D D.f2;⟨(i2,acc,oa,oc,true,true,l5,c5),f2,C,⟨hi2,by rw[← G]⟩,F.exm,F.res,⟨hF,tQ⟩⟩);refine Aa 5 (λ_=>?_);obtain rfl:bd=false:=h5;obtain⟨hi2,K⟩:=hq.ok;have hpa:=mG K hil hi2;refine Aa 5 (λ_=>Ap 82 C C (λh6=>?_) (λh6=>?_));replace h6:=B5 h6;refine Aa 2 (λ_=>?_);obtain rfl:cl=false:=h6;refine Ae 12 [0] (y<|λb2=>λ_=>Hf<|Aa 2 (λ_=>?_));rw[hd] at G;rw[RC Q U h4,K] at G;exact Di 0 C C<|A5 (λw f D=>Bl C (Af C) (Af C)) (λw f D=>⟨(i2,.cons t x1 .nil,some ⟨b2,0,none⟩,1,false,false,l5,c5),f,C,⟨hi2,by rw[← G];exact⟨C,C,C,C⟩⟩,D.exm,D.res,⟨GV.toF (GV.one D.f0) D.b0 (Nat.le_refl _),tQ⟩⟩);replace h6:=B3 h6;refine Aa 3 (λ_=>?_);obtain rfl:cl=true:=h6;refine Ae 6 [0] (y<|λb2=>λ_=>Dd 0 0 C C oD C C C C C C C C (λ_ _=>C) oM oM λoa2 oc2=>Aa 3 (λ_=>?_));have J:I7 m3 d (acc.snoc t x1) (L.drop (i2))=I7 m d .nil (L.drop i0):=by rw[hd,RC Q U h4,K] at G;exact G
   rw[Fo.snoc_app] at J;exact Ce ((i2,m3,acc.app (.cons t x1 .nil),xs++LQ t ka x1.len kc,oa2,oc2,l5,c5)) (show L.length-(i2)<L.length-i by omega) ⟨show i2≤_ by omega,show L.length<m3+(i2) by omega,show m3≤m by omega,(by show (acc.app (.cons t x1 .nil)).len≤i2;rw[Fo.len_app2];show acc.len+1≤_;omega),J⟩ ((by have e:(acc.app (.cons t x1 .nil)).len=acc.len+1:=(Fo.len_app2 _ _);dsimp only;rw[e];exact Av lE C)) (λw f D=>⟨_,(by have e:(acc.app (.cons t x1 .nil)).len=acc.len+1:=(Fo.len_app2 _ _);dsimp only;rw[e];exact (D.more (B':=[]) (F':=[λw f=>GV w f (acc.app (.cons t x1 .nil)) (xs++LQ t ka x1.len kc)]) nE (AR.mem ⟨GV.app (GV.one (D.f0)) D.f2,tQ⟩) (Au.mem ⟨GV.mono,tQ⟩)).less (List.nil_sublist _) sR nE (mR [2,0]))⟩);refine Bf 6 (λ_=>BG<|Aa 4 (λ_=>Df<|Aa 10 (λ_=>?_)));obtain rfl:i=L.length:=by have:=dF h1;omega
   rw[List.drop_length,rV (by omega)] at G;exact A5 (λw f D=>Bl C (Af C) (Af C)) (λw f D=>let ⟨f2,F,hF⟩:=Qn D D.f1;⟨(L.length,acc,oa,oc,false,false,W,Y),f2,C,⟨Nat.le_refl _,by rw[← G];exact⟨C,C,C,List.drop_length.symm⟩⟩,F.exm,F.res,⟨hF,tQ⟩⟩)
   all_goals
     exact A5 (λw f D=>Bl C (Af C) (Af C)) (λw f D=>let ⟨f2,F,hF⟩:=Qn D D.f1;⟨(i+1,acc,oa,oc,true,true,t.ln,t.co),f2,C,⟨by show i+1≤_;omega,by rw[← G]⟩,F.exm,F.res,⟨hF,tQ⟩⟩)

theorem tsome:∀m,SoT m:=λm=>Nat.strongRecOn m λm h w f D rb L F lc i d G c0 J K O Q U W Y=>V1 m h w f D rb L F lc i d G c0 J K O Q U W Y
theorem topen(w:wO)(f:Fq)(hv:Vl w f)(L:List Aq)(J:oA)(lc:Nat)(hL:L.length≤100000)(hI:Dc Wv w f L J lc) :
   AX prog 29 #[.slice J L.length lc] w (AU (α:=Int×Int) (λx=>.tuple #[.agg #[.int .i64 x.1,.int .i64 x.2],.bool (L8 0 L != 0)]) (λ_=>True) (λ_=>[]) w f):=by
 refine Ed [λw f=>Dc Wv w f L J lc] func29 C C C (Be hv ⟨hI,tQ⟩ ⟨Dc.mono,tQ⟩)<|Aa 18 (λb1=>λ_=>LY 41 2 ?_);refine DK (α:=Nat×List (Int×Int)×oA×Nat) (λx=>L.length-x.1) (λx=>x.1≤L.length∧x.2.1.length≤x.1∧L8 x.2.1.length (L.drop x.1)=L8 0 L) (λx=>(E4 0 (.slice J L.length lc) 2 (.pointer (some ⟨b1,0,none⟩)) 4 (.slice x.2.2.1 x.2.1.length x.2.2.2) 5 (.int .i64 (x.1:Int)))) (λx=>X0 w f) (λx=>[⟨b1,[.int .i64 0,.int .i64 0],41,true⟩]) (λx=>[⟨41,2,x.2.2.1,x.2.2.2,x.2.1.length,x.2.1.flatMap ZQ⟩]) (λx=>[]) (λx=>[λw f=>Dc Wv w f L J lc]) ((0,[],none,0)) ⟨Nat.zero_le _,Nat.le_refl _,C⟩ lE (λw f d=>d) ?_;rintro⟨i,D,W,Z⟩ ⟨hi,hki,hw⟩;dsimp only at hi hki hw ⊢;refine Aa 9 (λ_=>Ap 9 C C (λK=>?_) (λK=>?_));refine Aa 7 (λ_=>?_);have O:i<L.length:=by have:=dT K;omega
 obtain⟨t,ht⟩:∃t,L[i]?=some t:=⟨_,List.getElem?_eq_getElem O⟩;have hd:L.drop i=t::L.drop (i+1):=by rw[List.drop_eq_getElem_cons O,(List.getElem?_eq_some_iff.1 ht).2]
 refine Hh (α:=Nat×Nat) (λx=>J=some ⟨x.1,x.2,none⟩) (λx=>[⟨x.1,x.2+i*5,Wv t⟩]) (λx=>[]) (λw f d=>let ⟨b,off,K,F⟩:=Dc.get 5 (λ_=>C) d.f0 ht;⟨(b,off),K,(oE F),λ_ h=>by cases h⟩) (λx=>Au.mem tQ) ?_;rintro⟨tb,tq⟩ rfl;refine Ae 9 [100,0] (And.intro (by first|omega|(simp only[List.length_cons];omega))<|y2<|λ_=>Ap 17 C C (λF=>?_) (λF=>?_));refine Ae 9 [100,1] (And.intro (by first|omega|(simp only[List.length_cons];omega))<|y2<|λb2=>λ_=>Dd 0 0 C C ZM C C C C C C C C (λ_ _=>C) oM oM λwa2 wc2=>Ae 12 [100,0] (And.intro (by first|omega|(simp only[List.length_cons];omega))<|y2<|λ_=>Ap 32 C C (λG=>?_) (λG=>?_)));exact absurd ((eq_of_beq F).symm.trans (eq_of_beq G)) dC;exact Aa 15 (And.intro ⟨oM,oM⟩<|λ_=>Ce ((i+1,D++[(t.ln,t.co)],wa2,wc2)) (show L.length-(i+1)<L.length-i by omega) ⟨show i+1≤_ by omega,(by show (D++[(t.ln,t.co)]).length≤i+1;rw[List.length_append,List.length_singleton];omega),by rw[List.length_append,List.length_singleton,← zJ hd F];exact hw⟩ ((by have e:(D++[(t.ln,t.co)]).length=D.length+1:=(by simp);dsimp only;rw[e];exact Av lE C)) (λw f d=>⟨_,(by have e:(D++[(t.ln,t.co)]).length=D.length+1:=(by simp);dsimp only;rw[e,BR];exact d.less (sD (sK sZ)) sR nE (mR [0]))⟩));refine Ae 12 [100,0] (And.intro (by first|omega|(simp only[List.length_cons];omega))<|y2<|λ_=>Ap 32 C C (λG=>?_) (λG=>?_));refine Aa 6 (λ_=>Ap 36 C C (λh4=>?_) (λh4=>?_));refine Aa 1 (λ_=>?_);obtain⟨q,hq⟩:∃q,D.length=q+1:=⟨D.length-1,by have:=dT h4;omega⟩;refine Aa 5 (And.intro ⟨oM,oM⟩<|λ_=>Kz (λw f d=>(d.row _ (.head _)).cap) λQ=>?_);dsimp only at Q;exact BN C C (λw f d=>IH (i:=q) oM C C fF oM)<|mrk q oM<|Aa 9 (And.intro ⟨oM,oM⟩<|λ_=>Ce ((i+1,D.take q,W,Z)) (show L.length-(i+1)<L.length-i by omega) ⟨show i+1≤_ by omega,(by show (D.take q).length≤i+1;rw[List.length_take];omega),by rw[List.length_take,Nat.min_eq_left (by omega),show q=D.length-1 by omega,← dU hd F G];exact hw⟩ ((by have e:(D.take q).length=q:=(by rw[List.length_take];omega);dsimp only;rw[e];exact Av lE C)) (λw f d=>⟨_,(by have e:(D.take q).length=q:=(by rw[List.length_take];omega);dsimp only;rw[e,← P1 2 (λ_=>C)];exact d.less (sK sZ) sR nE (mR [0]))⟩));exact Aa 9 (And.intro ⟨oM,oM⟩<|λ_=>Ce ((i+1,D,W,Z)) (show L.length-(i+1)<L.length-i by omega) ⟨show i+1≤_ by omega,(by show (D).length≤i+1;omega),by rw[dU hd F G,show D.length-1=D.length by (have:=dF h4;omega)] at hw;exact hw⟩ lE (λw f d=>⟨_,d.less (sK sZ) sR nE (mR [0])⟩));exact Aa 15 (And.intro ⟨oM,oM⟩<|λ_=>Ce ((i+1,D,W,Z)) (show L.length-(i+1)<L.length-i by omega) ⟨show i+1≤_ by omega,(by show (D).length≤i+1;omega),by rw[← wt_no hd F G];exact hw⟩ lE (λw f d=>⟨_,d.less (sK sZ) sR nE (mR [0])⟩));refine Aa 3 (λ_=>Df<|Aa 4 (λ_=>?_))
 obtain rfl:i=L.length:=by have:=dF K;omega
 rw[List.drop_length] at hw;have hw:D.length=L8 0 L:=hw;refine Aa 6 (λ_=>Ap 44 C C (λF=>?_) (λF=>?_));exact Ae 10 [0] (y<|λ_=>A5 (λw f d=>Bl C (Ab C Dx d.k0 C) (Af C)) (λw f d=>⟨(0,0),f,(by rw[show (L8 0 L != 0)=false from bne_eq_false_iff_eq.2 (by have:=eq_of_beq F;omega)]),tQ,d.exm,tQ⟩));refine Aa 4 (λ_=>?_);obtain⟨U,pr,rfl⟩:∃U pr,D=U::pr:=by cases D with|nil=>exact absurd C (ne_of_beq_false F)|cons U pr=>exact⟨U,pr,C⟩
 refine Kz (p:=∃ob,W=some ⟨ob,0,none⟩) (λw f d=>by rcases (d.row _ (.head _)).2 with ⟨_,_,Y⟩|⟨ob,_,Y,_⟩;(dsimp only at Y;cases Y);exact⟨ob,Y⟩) λhob=>?_;obtain⟨ob,rfl⟩:=hob;exact bE 0 C C<|Ae 9 [100,0,0] (And.intro (by first|omega|(simp only[List.length_cons];omega))<|y2<|y<|λ_=>A5 (λw f d=>Bl C (Ab C Dx d.k0 C) (Af C)) (λw f d=>⟨U,f,(by rw[show (L8 0 L != 0)=true from bne_iff_ne.2 (by rw[← hw];exact Nat.succ_ne_zero _)]),tQ,d.exm,tQ⟩))
end Go.Proofs.YtnojaendcldjpaaGreatDoor
namespace Go.SW
open Go.RowKit
section
variable{P:Program}{σ:Ba}{w:wO}{ty T:tI}{x y:Operand}
variable {zl:lV}{bytes k yc:Nat}{a ya:oA}
theorem mP{e:tI}{size:Nat}(F:Jy P T=some (e,size,bytes,zl)){c:Nat}(K:ev σ x=some (.slice a k c))(L:ev σ y=some (.slice ya 0 yc))(J:k≤c) :
   AK P σ (.call {callee:=.builtin .append,args:=#[x,y],argTypes:=#[T,T]}) ty w (.slice a k c) w:=by
 unfold Jy at F
 split at F
 · rename_i Z hu
   split at F
   · rename_i i O
     have U:(Builtin.firstCells i.size 0 (.slice ya 0 yc)).run P w=.ok #[] w:=by
       cases ya with
       |none=>rfl
       |some a=>exact run_firstCells_some (P:=P) w i.size 0 a 0 yc [] (by simp) (λj u W=>by cases W)
     have Y:(Builtin.append_ #[T,T] ty #[.slice a k c,.slice ya 0 yc]).run P w=.ok (.slice a k c) w:=by
       cases a <;> simp[Builtin.append_,run_underlying hu,sizeOf,typeInfo,O,Builtin.lenOf,J,U,storeCells]
     intro ρ _ _ _ _ G;simp only[execOp,resolve,invoke,builtin,Sem.run_bind,Sem.run_pure,Result.andThen_ok,List.map_toArray,List.map_cons,List.map_nil,G _ _ K,G _ _ L,Y]
   · cases F
 · cases F
end
section
variable{P:Program}{n:Nat}{Q:AV}{ds:List Deferred}{X:Cx}{R:List RB}{B:List FB}{Fs:List (wO→Fq→Prop)}{fs:List Fr}{σ:Ba}{H:List HB}
variable{all r:List Oper}{ty T:tI}{pos:String}{af:Array Edge}{g:Option (Nat×Bool)}{d:Nat}{x y:Operand}
variable {news xs zl:lV}{bytes k m yc:Nat}{a ya:oA}
theorem Aa3{e:tI}{size:Nat}{c:Nat}{R':oA→Nat→List RB}(i:Nat)(hg:gd all σ g=some true)(hd:Nat.blt d n=true)(hT:Jy P T=some (e,size,bytes,zl))(K:Nat.beq zl.length size=true)(L:Nat.blt 0 size=true)
   (hs:ev σ x=some (.slice a k c)) (hx:ev σ y=some (.slice ya m yc)) (J:N0 R i=some ⟨e,size,a,c,k,xs⟩)
   (hY:∀w f,AO X w f H R B Fs→(m=0∧news=[])∨∃q off,ya=some ⟨q,off,none⟩∧Cs w f q off news) (hl:news.length=m*size) (h1:∀v∈news,v.oneCell'=true)
   (hS:∀a' c',QV R i ⟨e,size,a',c',k+m,xs++news⟩=some (R' a' c')) (O:(k+m)*bytes≤140737488355328) (U:k+m≤9223372036854775807)
   (h:∀a' c',A1 P n Q ds X (R' a' c') B Fs (.ops all r) fs (AI σ d (.slice a' (k+m) c')) H) :
   A1 P n Q ds X R B Fs (.ops all (⟨some d,.call {callee:=.builtin .append,args:=#[x,y],argTypes:=#[T,T]},ty,pos,af,g⟩::r)) fs σ H:=λw f G=>by
 rcases Nat.eq_zero_or_pos m with W|W
 · subst W
   have hn:news=[]:=List.eq_nil_of_length_eq_zero (by simpa using hl);subst hn;have F:=G.row _ (Da J);have Y:k≤c:=F.cap;have Z:FE a w a w:=⟨C,C,C,Nat.le_refl _,λ_ _ _=>C,.inl C⟩;have hS2:=hS a c;refine Bh hg (Ac hd (mP hT hs hx Y) ?_);have:=h a c w f (G.grow J hS2 (by rw[List.append_nil];exact F) Z);exact this
 · rcases hY w f G with ⟨h2,_⟩|⟨q,off,rfl,hC⟩
   · omega
   · obtain⟨a',c',w',hr,hrw,Z⟩:=R5 (ty:=ty) hT K L hs hx (G.row _ (Da J)) (λj u hj=>by rw[Ea];exact (hC j u hj).2) hl h1 W O U
     exact Bh hg (Ac hd hr (h a' c' w' f (G.grow J (hS a' c') hrw Z)))
variable{op:Op}{fid:FuncId}{args:Array Value}{α:Type}
theorem mcs0{e:tI}{size:Nat}{val:α→oA→Nat→Value}{m:α→Nat}{xs:α→lV}{q:α→Prop}
   (K:gd all σ g=some true) (hd:Nat.blt d n=true) (he:∀w,Enters P σ op ty w fid args)
   (L:∀w f,AO X w f H R B Fs→AX P fid args w (bJ e size val m xs q (λ_=>False) (λ_ _ _=>True) w f))
   (h:∀x a c,q x→A1 P n Q ds X (⟨e,size,a,c,m x,xs x⟩::R) B Fs (.ops all r) fs (AI σ d (val x a c)) H):A1 P n Q ds X R B Fs (.ops all (⟨some d,op,ty,pos,af,g⟩::r)) fs σ H:=λw f F=>by
 refine Bh K (A0 hd (he w) (L w f F) ?_);rintro v w' ⟨x,a,c,f',rfl,O,J,U,G,-⟩;exact h x a c O w' f' ((F.call0 J).putRow J.stp.size (λ_ G=>F.lt G) (λb G=>(F.mi b G).1) F.stp.size U G)
end
end Go.SW
namespace Go.SP
open Go.SW Go.RowKit
variable {f:Fq}{i k:Nat}{M MI:Nat→Prop}{w0:wO}
theorem KD{I:wO→Fq→Prop}{w:wO}{f0:Fq}{H:List HB}{R:List RB}{B:List FB}{Fs:List (wO→Fq→Prop)}{r:RB}(F:AO ⟨M,MI,I,w0,f0⟩ w f H R B Fs)(G:r∈R):∀b,rb r.a=some b→w0.heap.size≤b∧f b=0:=λb J =>
 ⟨F.rnw r G b J,(F.own b (by rw[Cf];exact List.mem_append.2 (.inr (List.mem_filterMap.2 ⟨r,G,J⟩)))).1⟩
def D4:Nd→List lU
 |.nil=>[]
 |.cons op _ _ tx _ k r=>(if op==22 then [tx] else [])++(D4 k++D4 r)
def Nd.sz:Nd→Nat
 |.nil=>0
 |.cons _ _ _ _ _ k r=>k.sz+r.sz+1
def Fo.sz:Fo→Nat
 |.nil=>0
 |.cons _ k r=>k.sz+r.sz+1
theorem Nd.sz_app:∀x y:Nd,(x.app y).sz=x.sz+y.sz
 |.nil,y=>(Nat.zero_add _).symm
 |.cons a b c d e k r,y=>by show k.sz+(r.app y).sz+1=k.sz+r.sz+1+y.sz;rw[Nd.sz_app r y];omega
theorem Wb:∀x y:Nd,D4 (x.app y)=D4 x++D4 y
 |.nil,y=>rfl
 |.cons a b c d e k r,y=>by show _++(D4 k++D4 (r.app y))=(_++(D4 k++D4 r))++D4 y;rw[Wb r y];simp
theorem MZ:∀x:Nd,(D4 x).length≤x.sz
 |.nil=>Nat.le_refl _
 |.cons a b c d e k r=>by
   have F:=MZ k;have G:=MZ r;show (_++(D4 k++D4 r)).length≤k.sz+r.sz+1;rw[List.length_append,List.length_append]
   split <;> simp <;> omega
theorem Nd.len_sz:∀x:Nd,x.len≤x.sz
 |.nil=>Nat.le_refl _
 |.cons a b c d e k r=>by show r.len+1≤k.sz+r.sz+1;have:=Nd.len_sz r;omega
theorem Fo.len_sz:∀x:Fo,x.len≤x.sz
 |.nil=>Nat.le_refl _
 |.cons a k r=>by show r.len+1≤k.sz+r.sz+1;have:=Fo.len_sz r;omega
theorem Mt:∀(l:List lU)(x:lU),CU (l++[x])=(CU l&&!l.contains x)
 | [],x=>by simp[CU]
 |y::l,x=>by
   show (!(l++[x]).contains y&&CU (l++[x]))=((!l.contains y&&CU l)&&!(y::l).contains x);rw[Mt l x];have F:(l++[x]).contains y=(l.contains y||y==x):=by simp only[List.contains_eq_any_beq,List.any_append,List.any_cons,List.any_nil,Bool.or_false]
   have G:(y::l).contains x=(y==x||l.contains x):=by rw[List.contains_cons,Bool.beq_comm]
   rw[F,G]
   cases l.contains y <;> cases (y==x) <;> cases CU l <;> cases l.contains x <;> rfl
theorem I5{l:List lU}{x:lU}(F:l[i]?=some x):CU (l.take (i+1))=(CU (l.take i)&&!(l.take i).contains x):=by
 rw[List.take_add_one,F];exact Mt _ _
theorem PR:∀(d i:Nat)(l:List lU),CU (l.take i)=false→i+d=l.length→CU l=false
 |0,i,l,h,e=>by rwa[List.take_of_length_le (by omega)] at h
 |d+1,i,l,h,e=>by
   obtain⟨x,F⟩:∃x,l[i]?=some x:=⟨_,List.getElem?_eq_getElem oM⟩;exact PR d (i+1) l (by rw[I5 F,h];rfl) oM
theorem Xk{l:List lU}{x:lU}(F:l[i]?=some x)(hk:l[k]?=some x)(h:k<i):CU l=false:=by
 have G:=(List.getElem?_eq_some_iff.1 F).1;refine PR (l.length-(i+1)) (i+1) l ?_ oM;have:(l.take i).contains x=true:=List.contains_iff_mem.2 (List.mem_of_getElem? (i:=k) (by rw[List.getElem?_take_of_lt h];exact hk));rw[I5 F,this];simp
def QP(t:Aq):NR:=if t.tx==[95] then ⟨21,t.ln,t.co,[],0,none,0,0⟩ else ⟨22,t.ln,t.co,t.tx,0,none,0,0⟩
def OO:Fo→List NR
 |.nil=>[]
 |.cons t _ r=>QP t::OO r
theorem RN:∀l:Fo,(OO l).length=l.len
 |.nil=>rfl
 |.cons _ _ r=>congrArg (· + 1) (RN r)
def Wg(t:Aq):N:=if t.tx==[95] then ⟨21,t.ln,t.co,[],0,.nil⟩ else ⟨22,t.ln,t.co,t.tx,0,.nil⟩
theorem Ol{n:Nat}{t:Aq}{k:Fo}(h:DP (n+1) t k):k.all (DP n):=HJ n k h.2.1 h.2.2.2
end Go.SP
namespace Go.SP
open Go.SW Go.RowKit
theorem Pa{b b2 p r R:Bool}(F:(b||!(p&&r))=R)(G:b2=(b||!p)):(b2||!r)=R:=by subst G;rw[← F];cases b <;> cases p <;> cases r <;> rfl
theorem Re{b R:Bool}(h:(b||!true)=R):b=R:=by rw[← h];cases b <;> rfl
theorem QG{r R:Bool}(h:(true||r)=R):true=R:=h
theorem H9{b M:Bool}(h:M=true):b=(b||!M):=by rw[h];cases b <;> rfl
theorem CM{b M:Bool}(h:M=false):true=(b||!M):=by rw[h];cases b <;> rfl
variable {f:Fq}{a:oA}
theorem Dc.hY{α:Type}{g:α→lV}{w:wO}{l:List α}{c:Nat}(h:Dc g w f l a c):(l.length=0∧l.flatMap g=[])∨∃q off,a=some ⟨q,off,none⟩∧Cs w f q off (l.flatMap g):=h.2.imp (λh=>by subst h;exact⟨C,C⟩) id
theorem xP(l:List lU):∀v∈l.flatMap sC,v.oneCell'=true:=λv F=>by
 obtain⟨x,_,G⟩:=List.mem_flatMap.1 F;rcases List.mem_singleton.1 G with rfl
 rfl
theorem wZ(t:Aq):nrV (QP t)=nV (Wg t).op (Wg t).ln (Wg t).co (Wg t).tx (Wg t).nm (Wg t).kids none 0:=by unfold QP Wg;split <;> rfl
theorem Wp(t:Aq):(Wg t).kids=.nil:=by unfold Wg;split <;> rfl
theorem ho_vn(t:Aq):D4 (Wg t).one=if t.tx==[95] then [] else [t.tx]:=by
 unfold Wg
 split <;> rfl
theorem iK{t:Aq}(h:(t.tx==[95])=true):QP t=⟨21,t.ln,t.co,[],0,none,0,0⟩:=by unfold QP;rw[h];rfl
theorem uS{t:Aq}(h:(t.tx==[95])=false):QP t=⟨22,t.ln,t.co,t.tx,0,none,0,0⟩:=by unfold QP;rw[h];rfl
abbrev oQ(T:tI)(F:Nat)(b0:Bool)(n:Nat)(t:Aq)(k:Fo)(w:wO)(f:Fq):Value→wO→Prop :=
 EF (α:=N×oA×Nat×Bool×Int×Int) (λy=>nV y.1.op y.1.ln y.1.co y.1.tx y.1.nm y.1.kids y.2.1 y.2.2.1) (λy=>y.2.2.2.1=(b0||!ET n t k)∧(y.2.2.2.1=false→D4 y.1.one=Iv n t k)∧y.1.kids.sz≤k.sz) (λb=>b=F) (λy=>Bm T F y.2.2.2.1 y.2.2.2.2.1 y.2.2.2.2.2) (λy=>[λw f=>Bc w f y.1.kids y.2.1 y.2.2.1]) w f
abbrev kY(T:tI)(F:Nat)(b0 M:Bool)(w:wO)(f:Fq):Value→wO→Prop :=
 EF (α:=NR×Bool×Int×Int) (λy=>nrV y.1) (λy=>y.2.1=(b0||!M)) (λb=>b=F) (λy=>Bm T F y.2.1 y.2.2.1 y.2.2.2) (λ_=>[]) w f
end Go.SP
namespace Go.SP
theorem O7(op ln co nm:Int)(tx:lU)(k r:Nd):D4 (.cons op ln co tx nm k r)=D4 (.cons op ln co tx nm k .nil)++D4 r:=by
 show _++(D4 k++D4 r)=(_++(D4 k++[]))++D4 r;simp
end Go.SP
namespace Go.SP
variable {co ln nm:Int}
theorem vn_y{op:Int}{tx:lU}{k:Nd}(h:(op==22)=true):[tx]++D4 k=D4 (.cons op ln co tx nm k .nil):=by
 show _=(if op==22 then [tx] else [])++(D4 k++[]);rw[h,List.append_nil];rfl
theorem vn_n{op:Int}{tx:lU}{k:Nd}(h:(op==22)=false):[]++D4 k=D4 (.cons op ln co tx nm k .nil):=by
 show _=(if op==22 then [tx] else [])++(D4 k++[]);rw[h,List.append_nil];rfl
end Go.SP
namespace Go.SP
open Go.SW Go.RowKit
theorem Bc.nil(w:wO)(f:Fq)(a:oA)(c:Nat):Bc w f .nil a c:=⟨Nat.zero_le _,.inl C⟩
end Go.SP
namespace Go.SP
variable {h:Aq}{hk:Fo}
theorem Db{n:Nat}{t:Aq}{l:Fo}(F:(t.k==2)=false)(G:(t.k==3)=false)(J:(t.k==4)=false)(K:(t.k==5)=false)(L:(t.k==6)=false) :
   ET (n+1) t (.cons h hk l)=if h.k==6&&(decide ((1:Int)≤l.len)&&decide ((l.len:Int)≤8)) then l.allB (ET n) else if DB t (.cons h hk l)==[116,117,112,108,101]&&(decide ((2:Int)≤l.len)&&decide ((l.len:Int)≤8)) then l.allB (ET n) else false:=by
 conv=>lhs;unfold ET
 rw[F,G,J,K,L];rfl
theorem Oa{n:Nat}{t:Aq}{l:Fo}(F:(t.k==2)=false)(G:(t.k==3)=false)(J:(t.k==4)=false)(K:(t.k==5)=false)(L:(t.k==6)=false):Iv (n+1) t (.cons h hk l)=l.names (Iv n):=by
 conv=>lhs;unfold Iv
 rw[F,G,J,K,L];rfl
end Go.SP
namespace Go.SP
theorem Qf{n:Nat}{ex:Aq→Fo→Bool}{t:Aq}{k:Fo}(h:k.len≠2):TQ n ex t k=false:=by
 unfold TQ
 split
 · exact absurd C h
 · rfl
variable {D E qb:Bool}
theorem iE{b0 b2 P:Bool}(F:qb=(b0||!P))(G:b2=(qb||!E))(J:qb=false→D=true):b2=(b0||!(P&&(D&&E))):=by
 subst G F
 cases b0 <;> cases P <;> cases D <;> cases E <;> first|rfl|(exact absurd (J rfl) dC)
theorem aK{b0 P:Bool}(F:qb=(b0||!P))(G:qb=false→D=false):true=(b0||!(P&&(D&&E))):=by
 subst F
 cases b0 <;> cases P <;> cases D <;> cases E <;> first|rfl|(exact absurd (G rfl) dC)
end Go.SP
namespace Go.SP
open Go.SW Go.RowKit
variable {h:Aq}{E xb:Bool}{hk:Fo}{f:Fq}{a:oA}
theorem AJ{n:Nat}{t:Aq}{l:Fo}(F:(t.k==2)=false)(G:(t.k==3)=false)(J:(t.k==4)=false)(K:(t.k==5)=false)(L:(t.k==6)=false) :
   Cv (n+1) t (.cons h hk l)=if h.k==6 then (decide ((1:Int)≤l.len)&&decide ((l.len:Int)≤8))&&l.allB (Cv n) else if OU.contains (DB t (.cons h hk l)) then HE n (Cv n) (DB t (.cons h hk l)) l else (decide ((1:Int)≤l.len)&&decide ((l.len:Int)≤8))&&(Fo.cons h hk l).allB (Cv n):=by
 conv=>lhs;unfold Cv
 rw[F,G,J,K,L];rfl
section
variable{n:Nat}{ex:Aq→Fo→Bool}{w:lU}{l:Fo}
theorem Mc(h:(w==[102,110])=true)(F:l.len≠2):HE n ex w l=false:=by
 unfold HE;rw[h];simp only[if_true]
 split
 · exact absurd C F
 · rfl
theorem Km(G:(w==[102,110])=false)(h:(w==[108,101,116])=true)(F:l.len≠3):HE n ex w l=false:=by
 unfold HE;rw[G,h];simp only[if_true];rw[if_neg (by decide)]
 split
 · exact absurd C F
 · rfl
theorem Kt(G:(w==[102,110])=false)(J:(w==[108,101,116])=false)(h:(w==[114,101,99])=true)(F:l.len≠3):HE n ex w l=false:=by
 unfold HE;rw[G,J,h];simp only[if_true];rw[if_neg (by decide),if_neg (by decide)]
 split
 · exact absurd C F
 · rfl
end
theorem Dg{x c:Int}{b:Bool}(h:decide (x<c)=b):decide (c≤x)=!b:=by subst h;rw[← decide_not];exact decide_eq_decide.2 ⟨λh=>by omega,λh=>by omega⟩
theorem Dt{x c:Int}{b:Bool}(h:decide (x>c)=b):decide (x≤c)=!b:=by subst h;rw[← decide_not];exact decide_eq_decide.2 ⟨λh=>by omega,λh=>by omega⟩
theorem E1{α:Type}[BEq α]{x c:α}{b:Bool}(h:(x != c)=b):(x==c)=!b:=by subst h;unfold bne;rw[Bool.not_not]
theorem KO{b0 b2 A:Bool}(F:xb=(b0||!(E&&true)))(G:b2=(xb||!A)):b2=(b0||!(E&&A)):=by subst G F;cases b0 <;> cases E <;> cases A <;> rfl
theorem Ws{b0 A:Bool}(F:xb=(b0||!(E&&(A&&true)))):xb=(b0||!(E&&A)):=by subst F;cases b0 <;> cases E <;> cases A <;> rfl
theorem Bq.first{w:wO}{t:Aq}{k r:Fo}{c:Nat}(h:Bq w f (.cons t k r) a c):Bq w f (.cons t k .nil) a c:=by
 refine⟨Nat.le_trans (show 1≤r.len+1 by omega) h.1,.inr ?_⟩;rcases h.2 with h|⟨b,off,F,G,J⟩
 · cases h
 · exact⟨b,off,F,G,tQ⟩
end Go.SP
namespace Go.SP
section
variable{n:Nat}{ex:Aq→Fo→Bool}{w:lU}{p b v e:Aq}{pk bk vk ek:Fo}
theorem Ky(h:(w==[102,110])=true):HE n ex w (.cons p pk (.cons b bk .nil))=((p.k==0&&(decide ((1:Int)≤pk.len)&&decide ((pk.len:Int)≤8)))&&(WN pk&&ex b bk)):=by
 unfold HE;rw[h];rfl
theorem MG(F:(w==[102,110])=false)(h:(w==[108,101,116])=true):HE n ex w (.cons v vk (.cons e ek (.cons b bk .nil)))=(v.rh&&(ex e ek&&ex b bk)):=by
 unfold HE;rw[F,h];rfl
theorem Lc(F:(w==[102,110])=false)(G:(w==[108,101,116])=false)(h:(w==[114,101,99])=true):HE n ex w (.cons v vk (.cons e ek (.cons b bk .nil)))=((v.rv&&FY e ek)&&(ex e ek&&ex b bk)):=by
 unfold HE;rw[F,G,h];rfl
end
end Go.SP
namespace Go.SP
open Go.SW Go.RowKit
variable {f:Fq}{a:oA}
theorem Bq.next1{w:wO}{t:Aq}{k r:Fo}{c:Nat}(h:Bq w f (.cons t k r) a c):Bt w f a 1 r:=let ⟨_,_,_,_,_,_,_,h⟩:=Bt.head (Bq.at h);h
end Go.SP
namespace Go.SP
theorem Js{n:Nat}{t:Aq}{k:Fo}(h:(t.k==0)=false):C2 (n+1) t k=(t.rt||t.rn):=by
 conv=>lhs;unfold C2
 rw[h];rfl
theorem S2{n:Nat}{t:Aq}(h:(t.k==0)=true):C2 (n+1) t .nil=false:=by
 conv=>lhs;unfold C2
 rw[h];rfl
variable {h:Aq}{hk:Fo}
theorem CD{n:Nat}{t:Aq}{l:Fo}(F:(t.k==0)=true):C2 (n+1) t (.cons h hk l) =
   if DB t (.cons h hk l)==[] then false
   else if DB t (.cons h hk l)==[45,62] then decide ((2:Int)≤l.len)&&l.allB (C2 n)
   else if DB t (.cons h hk l)==[116,117,112,108,101] then (decide ((2:Int)≤l.len)&&decide ((l.len:Int)≤8))&&l.allB (C2 n)
   else if DB t (.cons h hk l)==[114,101,102]||DB t (.cons h hk l)==[112,114,101,102] then (l.len:Int)==1&&l.allB (C2 n)
   else (h.rn&&(decide ((1:Int)≤l.len)&&decide ((l.len:Int)≤8)))&&l.allB (C2 n):=by
 conv=>lhs;unfold C2
 rw[F];rfl
end Go.SP
namespace Go.Proofs.YtnojaendcldjpaaGreatDoor
open Go.SW Go.SP Go.RowKit Go.Proofs.Tryz
theorem B6(w:wO)(f:Fq)(O:Vl w f)(d:Nat)(b0:Bool)(F c0:Int)(K:Bm 92 d b0 F c0 w f)(Q:f d=0)(t:Aq)(a:oA)(n c:Nat) :
   AX prog 59 #[.pointer (some ⟨d,0,none⟩),fV t a n c] w (EF (α:=Int×Int) (λ_=>nrV EM) (λ_=>True) (λb=>b=d) (λy=>Bm 92 d true y.1 y.2) (λ_=>[]) w f):=by
 refine Gb (X:=⟨λb=>b=d,λb=>b=d,Bm 92 d b0 F c0,w,f⟩) (H:=[]) (R:=[]) (B:=[]) (Fs:=[]) (f:=f) func59 C C C (JF (M:=λb=>b=d) (I:=Bm 92 d b0 F c0) O K Bm.stab (λb J=>by cases J;exact⟨AS.lt K,Q⟩) tQ tQ)<|Aa 12 (λb1=>λb2=>λ_=>BN C C (λw f D=>Ai C H8 D.res C)<|Aa 3 (λ_=>Ap 9 C C (λG=>?_) (λG=>?_)));replace G:=B5 G;exact Aa 6 (λ_=>ZZ (b:=d) (I':=Bm 92 d true F c0) C C C C H8 C C C C (λw f h=>h) (λw f U h D W J=>J) Bm.stab<|Ae 9 [1] (y<|λ_=>ZZ (b:=d) (I':=Bm 92 d true t.ln t.co) C C C C Dx C C C C (λw f h=>h) (λw f U h D W J=>J) Bm.stab<|Ae 9 [0] (y<|λ_=>A5 (λw f D=>Ao C (Ab C A2 D.k0 C)) (λw f D=>⟨(t.ln,t.co),f,C,tQ,D.exm,D.res,tQ⟩))));replace G:=B3 G;exact Ae 10 [0] (y<|λ_=>A5 (λw f D=>Ao C (Ab C A2 D.k0 C)) (λw f D=>⟨(F,c0),f,C,tQ,D.exm,(by have L:Bm 92 d b0 F c0 w f:=D.res;rw[G] at L;exact L),tQ⟩))
theorem eD(w:wO)(f:Fq)(hv:Vl w f)(pb:Nat)(l:Fo)(Q:oA)(lc:Nat)(hD:l.all (λt _=>t.ok))(hlen:l.len≤100000)(hL:Bq w f l Q lc) :
   AX prog 126 #[.pointer (some ⟨pb,0,none⟩),.slice Q l.len lc] w (bJ (α:=Bool) 94 6 (λ(b:Bool) a c=>.tuple #[.slice a (cond b l.len 0) c,.bool b]) (λb=>cond b l.len 0) (λb=>cond b ((OO l).flatMap JE) []) (λb=>b=WN l) (λ_=>False) (λ_ _ _=>True) w f):=by
 refine Ed [λw f=>Bq w f l Q lc] func126 C C C (Be hv ⟨hL,tQ⟩ ⟨Bq.mono,tQ⟩)<|Aa 18 (λ_=>LY 94 6 ?_);refine DK (α:=Nat×Fo×List NR×oA×Nat) (λx=>x.2.1.len) (λx=>x.1+x.2.1.len=l.len∧x.2.2.1.length=x.1∧WN l=WN x.2.1∧OO l=x.2.2.1++OO x.2.1∧x.2.1.all (λt _=>t.ok)) (λx=>(E4 0 (.pointer (some ⟨pb,0,none⟩)) 1 (.slice Q l.len lc) 6 (.slice x.2.2.2.1 x.2.2.1.length x.2.2.2.2) 7 (.int .i64 (x.1:Int)))) (λx=>X0 w f) (λx=>[]) (λx=>[⟨94,6,x.2.2.2.1,x.2.2.2.2,x.2.2.1.length,x.2.2.1.flatMap JE⟩]) (λx=>[]) (λx=>[λw f=>Bt w f Q x.1 x.2.1]) ((0,l,[],none,0)) ⟨Nat.zero_add _,C,C,C,hD⟩ lE (λw f h=>h.more (B':=[]) (F':=[λw f=>Bt w f Q 0 l]) nE (AR.mem ⟨Bq.at h.f0,tQ⟩) (Au.mem ⟨Bt.mono,tQ⟩) |>.less sR sR nE (mR [0])) ?_;rintro⟨i,r,d,oa,oc⟩ ⟨U,K,D,F,G⟩;dsimp only at U K D F G ⊢;refine Aa 9 (λ_=>Ap 12 C C (λW=>?_) (λW=>?_));refine Aa 7 (λ_=>?_);have Y:i<l.len:=by have:=dT W;omega
 obtain⟨t,k,r,rfl⟩:=Fo.cases1 r oM;have hi2:i+(r.len+1)=l.len:=U;refine Hr 0 C ?_;rintro⟨eb,eo,ka,kc⟩ rfl;refine Ae 5 [100,0] (And.intro oM<|y2<|λ_=>BO C C (eC Wd C C) (λw f h=>oH w f h.vl t _ _ _ G.1.1)<|Aa 3 (λ_=>Ap 20 C C (λJ=>?_) (λJ=>?_)));replace J:=B5 J;exact Aa 11 (λ_=>Hf<|Aa 2 (λ_=>A5 (λw f h=>Bl C (Af C) (Af C)) (λw f h=>⟨false,none,0,f,C,(by rw[D];show _=(t.rh&&WN r);rw[J];rfl),h.exm,⟨C,.inl ⟨C,C,C⟩⟩,(λb hb=>by cases hb),tQ⟩)));replace J:=B3 J;refine Aa 4 (λ_=>Cq [] Aj (rd [0,1,2,3,4,5,6,7,8,9,10,11,12] (.br 13 (.br 14 .fin .fin) .fin)) C kR<|By 13 [100,1,100,4] (And.intro oM<|y2<|And.intro oM<|y2<|λ_=>Ak C<|Aa 2 (λb1=>λ_=>Ar [] C<|Ak C<|Ae 2 [0] (y<|λ_=>Ar [] C<|BG ?_))));refine Ae 9 [0] (y<|λ_=>Ap 36 C C (λZ=>?_) (λZ=>?_));exact Ae 16 [100,1,0,0] (And.intro oM<|y2<|y<|y<|λb2=>λ_=>Dd 0 0 C C IM C C C C C C C C (λ_ _=>C) oM oM λL O=>Aa 9 (And.intro ⟨oM,oM⟩<|λ_=>Ce ((i+1,r,d++[QP t],L,O)) (show r.len<r.len+1 from Nat.lt_succ_self _) ⟨show i+1+r.len=_ by omega,(by show (d++[QP t]).length=i+1;simp[K]),D.trans (by show (t.rh&&WN r)=_;rw[J];rfl),(by show _=(d++[QP t])++OO r;rw[F];show d++(QP t::OO r)=_;simp),G.2⟩ ((by have e:(d++[QP t]).length=d.length+1:=(by simp);dsimp only;rw[e];exact Av lE C)) (λw f h=>⟨_,(by have e:(d++[QP t]).length=d.length+1:=(by simp);dsimp only;rw[e,BR,iK Z];exact h.less (List.nil_sublist _) sR nE (mR [1]))⟩)));exact Ae 7 [0] (y<|λb2=>λ_=>Dd 0 0 C C IM C C C C C C C C (λ_ _=>C) oM oM λL O=>Aa 9 (And.intro ⟨oM,oM⟩<|λ_=>Ce ((i+1,r,d++[QP t],L,O)) (show r.len<r.len+1 from Nat.lt_succ_self _) ⟨show i+1+r.len=_ by omega,(by show (d++[QP t]).length=i+1;simp[K]),D.trans (by show (t.rh&&WN r)=_;rw[J];rfl),(by show _=(d++[QP t])++OO r;rw[F];show d++(QP t::OO r)=_;simp),G.2⟩ ((by have e:(d++[QP t]).length=d.length+1:=(by simp);dsimp only;rw[e];exact Av lE C)) (λw f h=>⟨_,(by have e:(d++[QP t]).length=d.length+1:=(by simp);dsimp only;rw[e,BR,uS Z];exact h.less (List.nil_sublist _) sR nE (mR [1]))⟩)));refine Aa 3 (λ_=>Df<|Aa 3 (λ_=>?_));obtain rfl:r=.nil:=Fo.len0 (by have:=dF W;omega);have Y:i=l.len:=U;exact Aa 7 (λ_=>A5 (λw f h=>Bl C (Af C) (Af C)) (λw f h=>⟨true,oa,oc,f,(by rw[show d.length=l.len by omega];rfl),(by rw[D];rfl),h.exm,(by have h9:=h.row _ (.head _);dsimp only at h9;rw[show d=OO l from by rw[F];exact (List.append_nil _).symm,RN] at h9;exact h9),KD h (.head _),tQ⟩))
abbrev NaT(n:Nat):Prop:=∀(w:wO)(f:Fq)(_:Vl w f)(op ln co nm:Int)(tx:lU)(kids:Nd)(d:oA)(nc:Nat),kids.sz<n→kids.sz≤100000→Bc w f kids d nc→AX prog 156 #[.agg #[.int .i64 op,.int .i64 ln,.int .i64 co,S tx,.int .i64 nm,.slice d kids.len nc]] w (AU (α:=oA×Nat) (λy=>.slice y.1 (D4 (.cons op ln co tx nm kids .nil)).length y.2) (λ_=>True) (λy=>[λw f=>Dc sC w f (D4 (.cons op ln co tx nm kids .nil)) y.1 y.2]) w f)
theorem SE(w:wO)(f:Fq)(hv:Vl w f)(n:Nat)(ih:NaT n)(op ln co nm:Int)(tx:lU)(kids:Nd)(K:oA)(nc:Nat)(hm:kids.sz<n+1)(hks:kids.sz≤100000)(hN:Bc w f kids K nc) :
   AX prog 156 #[.agg #[.int .i64 op,.int .i64 ln,.int .i64 co,S tx,.int .i64 nm,.slice K kids.len nc]] w (AU (α:=oA×Nat) (λy=>.slice y.1 (D4 (.cons op ln co tx nm kids .nil)).length y.2) (λ_=>True) (λy=>[λw f=>Dc sC w f (D4 (.cons op ln co tx nm kids .nil)) y.1 y.2]) w f):=by
 have hkl:=Nd.len_sz kids;refine Ed [λw f=>Bc w f kids K nc] func156 C C C (Be hv ⟨hN,tQ⟩ ⟨Bc.mono,tQ⟩)<|Ae 19 [0] (λb1=>y<|λ_=>?_)
 · refine Ap 7 C C (λY=>?_) (λY=>?_)
   refine Aa 1 (λ_=>LY 9 1<|Ae 5 [0] (y<|λb2=>λ_=>Dd 0 0 C C YX C C C C C C C C (λ_ _=>C) oM oM λZ rc1=>Aa 10 (λ_=>?_)));refine DK (α:=Nat×Nd×List lU×oA×Nat) (λx=>x.2.1.len) (λx=>x.1+x.2.1.len=kids.len∧x.2.2.1++D4 x.2.1=(D4 (.cons op ln co tx nm kids .nil))∧x.2.1.sz≤kids.sz) (λx=>(E3 1 (.pointer (some ⟨b1,0,none⟩)) 3 (.slice x.2.2.2.1 x.2.2.1.length x.2.2.2.2) 4 (.int .i64 (x.1:Int)))) (λx=>X0 w f) (λx=>[⟨b1,GQ op ln co tx nm K kids.len nc,94,true⟩]) (λx=>[⟨9,1,x.2.2.2.1,x.2.2.2.2,x.2.2.1.length,x.2.2.1.flatMap sC⟩]) (λx=>[]) (λx=>[λw f=>Ct w f K x.1 x.2.1]) ((0,kids,[tx],Z,rc1)) ⟨Nat.zero_add _,(vn_y Y),Nat.le_refl _⟩ lE (λw f J=>(J.more (B':=[]) (F':=[λw f=>Ct w f K 0 kids]) nE (AR.mem ⟨Bc.at J.f0,tQ⟩) (Au.mem ⟨Ct.mono,tQ⟩)).less (sD (sK sZ)) sR nE (mR [0])) ?_
   rotate_left
   refine Aa 10 (λ_=>LY 9 1 ?_);refine DK (α:=Nat×Nd×List lU×oA×Nat) (λx=>x.2.1.len) (λx=>x.1+x.2.1.len=kids.len∧x.2.2.1++D4 x.2.1=(D4 (.cons op ln co tx nm kids .nil))∧x.2.1.sz≤kids.sz) (λx=>(E3 1 (.pointer (some ⟨b1,0,none⟩)) 3 (.slice x.2.2.2.1 x.2.2.1.length x.2.2.2.2) 4 (.int .i64 (x.1:Int)))) (λx=>X0 w f) (λx=>[⟨b1,GQ op ln co tx nm K kids.len nc,94,true⟩]) (λx=>[⟨9,1,x.2.2.2.1,x.2.2.2.2,x.2.2.1.length,x.2.2.1.flatMap sC⟩]) (λx=>[]) (λx=>[λw f=>Ct w f K x.1 x.2.1]) ((0,kids,[],none,0)) ⟨Nat.zero_add _,(vn_n Y),Nat.le_refl _⟩ lE (λw f J=>(J.more (B':=[]) (F':=[λw f=>Ct w f K 0 kids]) nE (AR.mem ⟨Bc.at J.f0,tQ⟩) (Au.mem ⟨Ct.mono,tQ⟩)).less (sK sZ) sR nE (mR [0])) ?_
   all_goals
     rintro⟨i,r,L,oa,oc⟩ ⟨hi,O,Q⟩;dsimp only at hi O Q ⊢;have hdl:L.length+(D4 r).length≤200000:=by have W:=congrArg List.length O;have h8:=MZ (.cons op ln co tx nm kids .nil);rw[List.length_append] at W;have h7:(D4 (.cons op ln co tx nm kids .nil)).length≤kids.sz+0+1:=h8;omega
     refine Ae 10 [0] (y<|λ_=>Ap 17 C C (λh2=>?_) (λh2=>?_));refine Aa 5 (λ_=>?_);have hil:i<kids.len:=by have:=dT h2;omega
     obtain⟨d,h,D,F,G,k2,r,rfl⟩:=Nd.cases1 r oM;have hi2:i+(r.len+1)=kids.len:=hi;refine Yy 0 C ?_;rintro⟨eb,eo,ka,kc⟩ rfl;rw[O7 d h D G F k2 r,List.length_append] at hdl;refine Ae 7 [0,100,0] (y<|And.intro oM<|y2<|λ_=>CR C C (eC Wu C C) (λw f J=>ih w f J.vl d h D G F k2 ka kc (by have W:k2.sz+r.sz+1≤kids.sz:=Q;omega) (by have W:k2.sz+r.sz+1≤kids.sz:=Q;omega) J.f0) (λx=>⟨Dc.mono,tQ⟩) ?_);rintro⟨ya,yc⟩ -;dsimp only;exact Aa3 0 C C YX C C C C C (news:=(D4 (.cons d h D F G k2 .nil)).flatMap sC) (λw f J=>Dc.hY J.f0) (KC 1 (λ_=>C) _) (xP _) (λ_ _=>C) oM oM λra rc=>Aa 9 (And.intro ⟨oM,oM⟩<|λ_=>Ce ((i+1,r,(L++D4 (.cons d h D F G k2 .nil)),ra,rc)) (show r.len<r.len+1 from Nat.lt_succ_self _) ⟨show i+1+r.len=_ by omega,(by rw[← O];show L++D4 (.cons d h D F G k2 .nil)++D4 r=L++D4 (.cons d h D F G k2 r);rw[O7 d h D G F k2 r,List.append_assoc]),show r.sz≤kids.sz by have W:k2.sz+r.sz+1≤kids.sz:=Q;omega⟩ ((by have e:(L++D4 (.cons d h D F G k2 .nil)).length=L.length+(D4 (.cons d h D F G k2 .nil)).length:=List.length_append;dsimp only;rw[e];exact Av lE C)) (λw f J=>⟨_,(by have e:(L++D4 (.cons d h D F G k2 .nil)).length=L.length+(D4 (.cons d h D F G k2 .nil)).length:=List.length_append;dsimp only;rw[e,List.flatMap_append];exact J.less (sK sZ) sR nE (mR [2]))⟩));refine Aa 3 (λ_=>Df<|Aa 9 (λ_=>?_));obtain rfl:r=.nil:=Nd.len0 (by have:=dF h2;omega);have U:L=(D4 (.cons op ln co tx nm kids .nil)):=by rw[← O];exact (List.append_nil _).symm
     exact A5 (Cb C C) (λw f J=>let ⟨f2,hM2,hF⟩:=Hn J;⟨(oa,oc),f2,(by rw[← U]),tQ,hM2.exm,⟨U▸hF,tQ⟩⟩)

theorem YV:∀n,NaT n
 |0=>λw f d op ln co nm tx kids D nc h=>by omega
 |n+1=>λw f d op ln co nm tx kids D nc F G J=>SE w f d n (YV n) op ln co nm tx kids D nc F G J
abbrev PaT(n:Nat):Prop:=∀(w:wO)(f:Fq)(_:Vl w f)(d:Nat)(b0:Bool)(h c0:Int)(_:Bm 92 d b0 h c0 w f)(_:f d=0)(t:Aq)(k:Fo)(ka:oA)(kc:Nat)(_:DP n t k)(_:k.sz≤100000)(_:Bq w f k ka kc),AX prog 155 #[.pointer (some ⟨d,0,none⟩),fV t ka k.len kc] w (oQ 92 d b0 (n+1) t k w f)
abbrev wQ(h:FuncId)(n:Nat)(M:Aq→Fo→Bool):Prop:=∀(w:wO)(f:Fq)(_:Vl w f)(d:Nat)(b0:Bool)(D c0:Int)(_:Bm 92 d b0 D c0 w f)(_:f d=0)(t:Aq)(k:Fo)(ka:oA)(kc:Nat)(_:DP n t k)(_:k.sz≤100000)(_:Bq w f k ka kc),AX prog h #[.pointer (some ⟨d,0,none⟩),fV t ka k.len kc] w (kY 92 d b0 (M t k) w f)
theorem PF(n:Nat)(ih:∀n',n=n'+1→PaT n')(w:wO)(f:Fq)(hv:Vl w f)(G:Nat)(b0:Bool)(l0 c0:Int)(hX:Bm 92 G b0 l0 c0 w f)(hf:f G=0)(t:Aq)(k:Fo)(ka:oA)(kc:Nat)(hp:DP n t k)(hsz:k.sz≤100000)(hL:Bq w f k ka kc) :
   AX prog 155 #[.pointer (some ⟨G,0,none⟩),fV t ka k.len kc] w (oQ 92 G b0 (n+1) t k w f):=by
 refine Gb (X:=⟨λb=>b=G,λb=>b=G,Bm 92 G b0 l0 c0,w,f⟩) (H:=[]) (R:=[]) (B:=[]) (Fs:=[λw f=>Bq w f k ka kc]) (f:=f) func155 C C C (JF (M:=λb=>b=G) (I:=Bm 92 G b0 l0 c0) hv hX Bm.stab (λb hb=>by cases hb;exact⟨AS.lt hX,hf⟩) ⟨hL,tQ⟩ ⟨Bq.mono,tQ⟩)<|Ae 34 [1,1,0,2] (λb1=>λb2=>y<|y<|λb3=>y<|y<|λ_=>?_)
 · refine Ap 20 C C (λO=>?_) (λO=>?_)
   exact Ae 25 [0,2,0,0,1] (y<|y<|y<|y<|y<|λ_=>A5 (λw f d=>Ao C (Ab C A2 d.k1 C)) (λw f d=>⟨(⟨23,t.ln,t.co,t.tx,t.nm,.nil⟩,none,0,b0,l0,c0),f,C,⟨H9 (by show ET (n+1) t k=true;unfold ET;rw[O];rfl),(λ_=>by show []=Iv _ _ _;unfold Iv;rw[O];rfl),Nat.zero_le _⟩,d.exm,d.res,⟨Bc.nil _ _ _ _,tQ⟩⟩));refine Aa 7 (λ_=>Ap 28 C C (λY=>?_) (λY=>?_));refine Ae 5 [2] (y<|λ_=>CI (XX:=λ_ _=>False) C C (eC AD C C) (λw f d=>(B6 w f d.vl G b0 l0 c0 d.res (d.mi G C).2.1 t _ _ _).retP) (λ_=>Bm.stab) (λ_=>trivial) (λ_ _ _ _ _ h=>h.elim) ?_);rintro⟨D,F⟩ -;exact Ae 6 [1] (y<|λ_=>A5 (λw f d=>Ao C (Ab C A2 d.k1 C)) (λw f d=>⟨(⟨0,0,0,[],0,.nil⟩,none,0,true,D,F),f,C,⟨CM (by show ET (n+1) t k=false;unfold ET;rw[O,Y];rfl),(λhz=>by cases hz),Nat.zero_le _⟩,d.exm,d.res,⟨Bc.nil _ _ _ _,tQ⟩⟩));refine Aa 7 (λ_=>Ap 33 C C (λZ=>?_) (λZ=>?_));exact Ae 16 [0,0,1] (y<|y<|y<|λ_=>A5 (λw f d=>Ao C (Ab C A2 d.k1 C)) (λw f d=>⟨(⟨24,t.ln,t.co,t.tx,0,.nil⟩,none,0,b0,l0,c0),f,C,⟨H9 (by show ET (n+1) t k=true;unfold ET;rw[O,Y,Z];rfl),(λ_=>by show []=Iv _ _ _;unfold Iv;rw[O,Y,Z];rfl),Nat.zero_le _⟩,d.exm,d.res,⟨Bc.nil _ _ _ _,tQ⟩⟩));refine Aa 7 (λ_=>Ap 37 C C (λh4=>?_) (λh4=>?_));refine Aa 2 (λ_=>Ae 4 [2] (y<|λb4=>λ_=>Di 0 C C<|mcs0 C C (eC W4 C C) (λw f d=>eD w f d.vl G (.cons t k .nil) (some ⟨b4,0,none⟩) 1 ⟨hp.1,tQ⟩ (show 1≤100000 by decide) (GV.toF (GV.one d.f0) d.b0 (Nat.le_refl _))) ?_));rintro okx ha hc hok;have hok:okx=t.rh:=hok.trans (Bool.and_true _);refine Aa 14 (λ_=>Ap 47 C C (λQ=>?_) (λQ=>?_));replace Q:=B5 Q;refine Ae 5 [2] (y<|λ_=>CI (XX:=λ_ _=>False) C C (eC AD C C) (λw f d=>(B6 w f d.vl G b0 l0 c0 d.res (d.mi G C).2.1 t _ _ _).retP) (λ_=>Bm.stab) (λ_=>trivial) (λ_ _ _ _ _ h=>h.elim) ?_);rintro⟨D,F⟩ -;refine Ae 7 [1] (y<|λ_=>?_);obtain rfl:okx=false:=Q;exact A5 (λw f d=>Ao C (Ab C A2 d.k1 C)) (λw f d=>⟨(⟨0,0,0,[],0,.nil⟩,none,0,true,D,F),f,C,⟨CM (by show ET (n+1) t k=false;unfold ET;rw[O,Y,Z,h4,← hok];rfl),(λhz=>by cases hz),Nat.zero_le _⟩,d.exm,d.res,⟨Bc.nil _ _ _ _,tQ⟩⟩);replace Q:=B3 Q;refine Aa 4 (λ_=>?_);obtain rfl:okx=true:=Q;refine Kz (p:=∃ob,ha=some ⟨ob,0,none⟩) (λw f d=>by rcases (d.row _ (.head _)).2 with ⟨_,_,U⟩|⟨ob,_,U,_⟩;(dsimp only at U;cases U);exact⟨ob,U⟩) λhob=>?_;obtain⟨ob,rfl⟩:=hob
   exact bE 0 C C<|Ae 10 [100,0,1] (And.intro (by first|omega|(simp only[Fo.len];omega)|(simp[Fo.len]))<|y2<|y<|λ_=>A5 (λw f d=>Ao C (Ab C A2 d.k1 C)) (λw f d=>⟨(Wg t,none,0,b0,l0,c0),f,wZ t,⟨H9 (by show ET (n+1) t k=true;unfold ET;rw[O,Y,Z,h4,← hok];rfl),(λ_=>(ho_vn t).trans (by unfold Iv;rw[O,Y,Z,h4];rfl)),(by show (Wg t).kids.sz≤_;rw[Wp];exact Nat.zero_le _)⟩,d.exm,d.res,⟨by show Bc _ _ (Wg t).kids _ _;rw[Wp];exact Bc.nil _ _ _ _,tQ⟩⟩));refine Aa 7 (λ_=>Ap 54 C C (λQ=>?_) (λQ=>?_));exact Ae 16 [0,0,1] (y<|y<|y<|λ_=>A5 (λw f d=>Ao C (Ab C A2 d.k1 C)) (λw f d=>⟨(⟨26,t.ln,t.co,t.tx,0,.nil⟩,none,0,b0,l0,c0),f,C,⟨H9 (by show ET (n+1) t k=true;unfold ET;rw[O,Y,Z,h4,Q];rfl),(λ_=>by show []=Iv _ _ _;unfold Iv;rw[O,Y,Z,h4,Q];rfl),Nat.zero_le _⟩,d.exm,d.res,⟨Bc.nil _ _ _ _,tQ⟩⟩));refine Ae 13 [2] (y<|λ_=>Ap 61 C C (λh6=>?_) (λh6=>?_));refine Aa 2 (λ_=>?_);obtain rfl:k=.nil:=Fo.len0 (by have U:((k.len:Int)==0)=true:=h6;have:=beq_iff_eq.1 U;omega);exact Ae 13 [0,0,1] (y<|y<|y<|λ_=>A5 (λw f d=>Ao C (Ab C A2 d.k1 C)) (λw f d=>⟨(⟨25,t.ln,t.co,t.tx,0,.nil⟩,none,0,b0,l0,c0),f,C,⟨H9 (by show ET (n+1) t .nil=true;unfold ET;rw[O,Y,Z,h4,Q];rfl),(λ_=>by show []=Iv _ _ _;unfold Iv;rw[O,Y,Z,h4,Q];rfl),Nat.zero_le _⟩,d.exm,d.res,⟨Bc.nil _ _ _ _,tQ⟩⟩));refine Aa 4 (λ_=>?_);obtain⟨h,hk,r,rfl⟩:=Fo.cases1 k (by have U:((k.len:Int)==0)=false:=h6;have:=beq_eq_false_iff_ne.1 U;omega);have hp0:=hp;obtain⟨hto,hko,hkl,hdp⟩:=hp;have hkl2:r.len+1≤100000:=hkl;have hszk:hk.sz+r.sz+1≤100000:=hsz;obtain⟨n,rfl⟩:∃q,n=q+1:=by cases n with|zero=>exact absurd hdp (by simp[Fo.deep])|succ q=>exact⟨q,C⟩
   simp only[Fo.deep,Bool.and_eq_true] at hdp;refine JN 0 C<|Hr 0 C ?_;rintro⟨eb,eo,hka,hkc⟩ rfl;refine Ae 4 [2] (y<|λ_=>BN C C (λw f d=>Ck (r.len:Int) C C ((CL (n:=((r.len+1:Nat):Int)-1) ⟨oM,oM⟩).trans oM))<|Ae 14 [2,100,0] (y<|And.intro (by first|omega|(simp only[Fo.len];omega)|(simp[Fo.len]))<|y2<|λ_=>Ap 75 C C (λh7=>?_) (λh7=>?_)));refine Aa 4 (λ_=>Ap 79 C C (λh8=>?_) (λh8=>?_));refine Aa 5 (λ_=>Ap 82 C C (λU=>?_) (λU=>?_));refine Ae 25 [0,2,100,4,0] (y<|y<|And.intro (by first|omega|(simp only[Fo.len];omega)|(simp[Fo.len]))<|y2<|y<|λ_=>LY 94 6 ?_);refine DK (α:=Nat×Fo×Bool×Int×Int×Nd×lV×oA×Nat) (λx=>x.2.1.len) (λx=>x.1+x.2.1.len=r.len+1∧(x.2.2.1||!x.2.1.allB (ET (n+1)))=(b0||!r.allB (ET (n+1)))∧(x.2.2.1=false→D4 x.2.2.2.2.2.1++x.2.1.names (Iv (n+1))=r.names (Iv (n+1)))∧x.2.2.2.2.2.1.sz+x.2.1.sz≤r.sz∧x.2.1.all (DP n)∧x.1=x.2.2.2.2.2.1.len+1) (λx=>(E6 0 (.pointer (some ⟨G,0,none⟩)) 3 (.pointer (some ⟨b1,0,none⟩)) 4 (.pointer (some ⟨b2,0,none⟩)) 5 (.pointer (some ⟨b3,0,none⟩)) 8 (.int .i64 (r.len:Int)) 9 (.int .i64 (x.1:Int)))) (λx=>⟨λb=>b=G,λb=>b=G,Bm 92 G x.2.2.1 x.2.2.2.1 x.2.2.2.2.1,w,f⟩) (λx=>[⟨b3,GQ 26 t.ln t.co h.tx 0 x.2.2.2.2.2.2.2.1 x.2.2.2.2.2.1.len x.2.2.2.2.2.2.2.2,94,true⟩,⟨b2,GQ 0 0 0 [] 0 none 0 0,94,true⟩,⟨b1,LQ t (some ⟨eb,eo,none⟩:oA) (r.len+1) kc,99,true⟩]) (λx=>[⟨94,6,x.2.2.2.2.2.2.2.1,x.2.2.2.2.2.2.2.2,x.2.2.2.2.2.1.len,x.2.2.2.2.2.2.1⟩]) (λx=>[]) (λx=>[λw f=>Bt w f (some ⟨eb,eo,none⟩) x.1 x.2.1,λw f=>BH w f x.2.2.2.2.2.1 x.2.2.2.2.2.2.1]) ((1,r,b0,l0,c0,.nil,[],none,0)) ⟨Nat.add_comm _ _,C,(λ_=>C),Nat.le_of_eq (Nat.zero_add _),HJ n r hko.2.2.2 hdp.2,C⟩ lE (λw f d=>(d.more (B':=[]) (F':=[λw f=>Bt w f (some ⟨eb,eo,none⟩) 1 r,λw f=>BH w f .nil []]) nE (AR.mem ⟨d.f1,C,tQ⟩) (Au.mem ⟨Bt.mono,BH.mono,tQ⟩)).less (sK (sK (sK sZ))) sR nE (mR [0,1])) ?_;rintro⟨i,r2,b2,l2,c2,dn,xs,oa,oc⟩ ⟨hi,hb,hn,hds,hr2,hdl⟩;dsimp only at hi hb hn hds hr2 hdl ⊢;refine Aa 7 (λ_=>Ap 109 C C (λK=>?_) (λK=>?_));refine Aa 3 (λ_=>BN C C (λw f d=>Ai C H8 d.res C)<|Aa 4 (λ_=>Ap 115 C C (λJ=>?_) (λJ=>?_)));replace J:=B5 J;refine Aa 5 (λ_=>?_);have hir:i≤r.len:=by have:=dT K;omega
   obtain⟨t2,k2,r2,rfl⟩:=Fo.cases1 r2 oM;have hi2:i+(r2.len+1)=r.len+1:=hi;obtain rfl:b2=false:=J
   rotate_left
   replace J:=B3 J;refine Aa 3 (λ_=>Df<|Ae 9 [0,1] (y<|y<|λ_=>?_));obtain rfl:b2=true:=J;exact A5 (λw f d=>Ao C (Ab C A2 d.k1 C)) (λw f d=>let ⟨f2,L,hF⟩:=G8 d d.f1;⟨(⟨26,t.ln,t.co,h.tx,0,dn⟩,oa,oc,true,l2,c2),f2,C,⟨by rw[(show ET (n+1+1) t (.cons h hk r)=r.allB (ET (n+1)) by rw[Db O Y Z h4 Q,h7,h8,U];rfl)];exact QG hb,(λhz=>by cases hz),show dn.sz≤hk.sz+r.sz+1 by omega⟩,L.exm,L.res,⟨hF,tQ⟩⟩);refine Aa 11 (λ_=>Df<|Ae 9 [0,1] (y<|y<|λ_=>?_));obtain rfl:r2=.nil:=Fo.len0 (by have:=dF K;omega);exact A5 (λw f d=>Ao C (Ab C A2 d.k1 C)) (λw f d=>let ⟨f2,L,hF⟩:=G8 d d.f1;⟨(⟨26,t.ln,t.co,h.tx,0,dn⟩,oa,oc,b2,l2,c2),f2,C,⟨by rw[(show ET (n+1+1) t (.cons h hk r)=r.allB (ET (n+1)) by rw[Db O Y Z h4 Q,h7,h8,U];rfl)];exact Re hb,(λhz=>by rw[(show Iv (n+1+1) t (.cons h hk r)=r.names (Iv (n+1)) from Oa O Y Z h4 Q)];exact hn hz),show dn.sz≤hk.sz+r.sz+1 by omega⟩,L.exm,L.res,⟨hF,tQ⟩⟩);refine Ae 4 [2] (y<|λ_=>BO C C (eC HP C C) (λw f d=>KQ w f d.vl t (.cons h hk r) _ _ d.f3)<|Aa 2 (λ_=>?_))
   · refine Ap 94 C C (λK=>?_) (λK=>?_)
     refine Aa 4 (λ_=>Ap 98 C C (λJ=>?_) (λJ=>?_));refine Aa 5 (λ_=>Ap 101 C C (λW=>?_) (λW=>?_));exact absurd (U.symm.trans W) dC;refine Ae 5 [2] (y<|λ_=>?_)
     rotate_left
     refine Ae 10 [2] (y<|λ_=>?_)
     rotate_left
     refine Ae 14 [2] (y<|λ_=>CI (XX:=λ_ _=>False) C C (eC AD C C) (λw f d=>(B6 w f d.vl G b0 l0 c0 d.res (d.mi G C).2.1 t _ _ _).retP) (λ_=>Bm.stab) (λ_=>trivial) (λ_ _ _ _ _ h=>h.elim) ?_);rintro⟨D,F⟩ -;exact Ae 5 [1] (y<|λ_=>A5 (λw f d=>Ao C (Ab C A2 d.k1 C)) (λw f d=>⟨(⟨0,0,0,[],0,.nil⟩,none,0,true,D,F),f,C,⟨CM (by show ET (n+1+1) t (.cons h hk r)=false;rw[Db O Y Z h4 Q,h7,h8,U,K];rfl),(λhz=>by cases hz),Nat.zero_le _⟩,d.exm,d.res,⟨Bc.nil _ _ _ _,tQ⟩⟩))
     all_goals
       refine CI (XX:=λ_ _=>False) C C (eC AD C C) (λw f d=>(B6 w f d.vl G b0 l0 c0 d.res (d.mi G C).2.1 t _ _ _).retP) (λ_=>Bm.stab) (λ_=>trivial) (λ_ _ _ _ _ h=>h.elim) ?_;rintro⟨D,F⟩ -;exact Ae 5 [1] (y<|λ_=>A5 (λw f d=>Ao C (Ab C A2 d.k1 C)) (λw f d=>⟨(⟨0,0,0,[],0,.nil⟩,none,0,true,D,F),f,C,⟨CM (by show ET (n+1+1) t (.cons h hk r)=false;rw[Db O Y Z h4 Q,h7,h8,U,K,J];rfl),(λhz=>by cases hz),Nat.zero_le _⟩,d.exm,d.res,⟨Bc.nil _ _ _ _,tQ⟩⟩))
   refine Ae 9 [2] (y<|λ_=>BO C C (eC HP C C) (λw f d=>KQ w f d.vl t (.cons h hk r) _ _ d.f3)<|Aa 2 (λ_=>Ap 94 C C (λU=>?_) (λU=>?_)));refine Aa 4 (λ_=>Ap 98 C C (λK=>?_) (λK=>?_));refine Aa 5 (λ_=>Ap 101 C C (λJ=>?_) (λJ=>?_));refine Ae 13 [0] (y<|λ_=>LY 94 6 ?_);refine DK (α:=Nat×Fo×Bool×Int×Int×Nd×lV×oA×Nat) (λx=>x.2.1.len) (λx=>x.1+x.2.1.len=r.len+1∧(x.2.2.1||!x.2.1.allB (ET (n+1)))=(b0||!r.allB (ET (n+1)))∧(x.2.2.1=false→D4 x.2.2.2.2.2.1++x.2.1.names (Iv (n+1))=r.names (Iv (n+1)))∧x.2.2.2.2.2.1.sz+x.2.1.sz≤r.sz∧x.2.1.all (DP n)∧x.1=x.2.2.2.2.2.1.len+1) (λx=>(E6 0 (.pointer (some ⟨G,0,none⟩)) 3 (.pointer (some ⟨b1,0,none⟩)) 4 (.pointer (some ⟨b2,0,none⟩)) 5 (.pointer (some ⟨b3,0,none⟩)) 8 (.int .i64 (r.len:Int)) 9 (.int .i64 (x.1:Int)))) (λx=>⟨λb=>b=G,λb=>b=G,Bm 92 G x.2.2.1 x.2.2.2.1 x.2.2.2.2.1,w,f⟩) (λx=>[⟨b3,GQ 27 t.ln t.co t.tx 0 x.2.2.2.2.2.2.2.1 x.2.2.2.2.2.1.len x.2.2.2.2.2.2.2.2,94,true⟩,⟨b2,GQ 0 0 0 [] 0 none 0 0,94,true⟩,⟨b1,LQ t (some ⟨eb,eo,none⟩:oA) (r.len+1) kc,99,true⟩]) (λx=>[⟨94,6,x.2.2.2.2.2.2.2.1,x.2.2.2.2.2.2.2.2,x.2.2.2.2.2.1.len,x.2.2.2.2.2.2.1⟩]) (λx=>[]) (λx=>[λw f=>Bt w f (some ⟨eb,eo,none⟩) x.1 x.2.1,λw f=>BH w f x.2.2.2.2.2.1 x.2.2.2.2.2.2.1]) ((1,r,b0,l0,c0,.nil,[],none,0)) ⟨Nat.add_comm _ _,C,(λ_=>C),Nat.le_of_eq (Nat.zero_add _),HJ n r hko.2.2.2 hdp.2,C⟩ lE (λw f d=>(d.more (B':=[]) (F':=[λw f=>Bt w f (some ⟨eb,eo,none⟩) 1 r,λw f=>BH w f .nil []]) nE (AR.mem ⟨d.f1,C,tQ⟩) (Au.mem ⟨Bt.mono,BH.mono,tQ⟩)).less (sK (sK (sK sZ))) sR nE (mR [0,1])) ?_;rintro⟨i,r2,b2,l2,c2,dn,xs,oa,oc⟩ ⟨hi,hb,hn,hds,hr2,hdl⟩;dsimp only at hi hb hn hds hr2 hdl ⊢;refine Aa 7 (λ_=>Ap 109 C C (λW=>?_) (λW=>?_));refine Aa 3 (λ_=>BN C C (λw f d=>Ai C H8 d.res C)<|Aa 4 (λ_=>Ap 115 C C (λh13=>?_) (λh13=>?_)));replace h13:=B5 h13;refine Aa 5 (λ_=>?_);have hir:i≤r.len:=by have:=dT W;omega
   obtain⟨t2,k2,r2,rfl⟩:=Fo.cases1 r2 oM;have hi2:i+(r2.len+1)=r.len+1:=hi;obtain rfl:b2=false:=h13
   rotate_left
   replace h13:=B3 h13;refine Aa 3 (λ_=>Df<|Ae 9 [0,1] (y<|y<|λ_=>?_));obtain rfl:b2=true:=h13;exact A5 (λw f d=>Ao C (Ab C A2 d.k1 C)) (λw f d=>let ⟨f2,L,hF⟩:=G8 d d.f1;⟨(⟨27,t.ln,t.co,t.tx,0,dn⟩,oa,oc,true,l2,c2),f2,C,⟨by rw[(show ET (n+1+1) t (.cons h hk r)=r.allB (ET (n+1)) by rw[Db O Y Z h4 Q,h7,h8,U,K,J];rfl)];exact QG hb,(λhz=>by cases hz),show dn.sz≤hk.sz+r.sz+1 by omega⟩,L.exm,L.res,⟨hF,tQ⟩⟩);refine Aa 11 (λ_=>Df<|Ae 9 [0,1] (y<|y<|λ_=>?_));obtain rfl:r2=.nil:=Fo.len0 (by have:=dF W;omega);exact A5 (λw f d=>Ao C (Ab C A2 d.k1 C)) (λw f d=>let ⟨f2,L,hF⟩:=G8 d d.f1;⟨(⟨27,t.ln,t.co,t.tx,0,dn⟩,oa,oc,b2,l2,c2),f2,C,⟨by rw[(show ET (n+1+1) t (.cons h hk r)=r.allB (ET (n+1)) by rw[Db O Y Z h4 Q,h7,h8,U,K,J];rfl)];exact Re hb,(λhz=>by rw[(show Iv (n+1+1) t (.cons h hk r)=r.names (Iv (n+1)) from Oa O Y Z h4 Q)];exact hn hz),show dn.sz≤hk.sz+r.sz+1 by omega⟩,L.exm,L.res,⟨hF,tQ⟩⟩);refine Ae 5 [2] (y<|λ_=>CI (XX:=λ_ _=>False) C C (eC AD C C) (λw f d=>(B6 w f d.vl G b0 l0 c0 d.res (d.mi G C).2.1 t _ _ _).retP) (λ_=>Bm.stab) (λ_=>trivial) (λ_ _ _ _ _ h=>h.elim) ?_);rintro⟨D,F⟩ -;exact Ae 5 [1] (y<|λ_=>A5 (λw f d=>Ao C (Ab C A2 d.k1 C)) (λw f d=>⟨(⟨0,0,0,[],0,.nil⟩,none,0,true,D,F),f,C,⟨CM (by show ET (n+1+1) t (.cons h hk r)=false;rw[Db O Y Z h4 Q,h7,h8,U,K,J];rfl),(λhz=>by cases hz),Nat.zero_le _⟩,d.exm,d.res,⟨Bc.nil _ _ _ _,tQ⟩⟩));refine Ae 10 [2] (y<|λ_=>CI (XX:=λ_ _=>False) C C (eC AD C C) (λw f d=>(B6 w f d.vl G b0 l0 c0 d.res (d.mi G C).2.1 t _ _ _).retP) (λ_=>Bm.stab) (λ_=>trivial) (λ_ _ _ _ _ h=>h.elim) ?_);rintro⟨D,F⟩ -;exact Ae 5 [1] (y<|λ_=>A5 (λw f d=>Ao C (Ab C A2 d.k1 C)) (λw f d=>⟨(⟨0,0,0,[],0,.nil⟩,none,0,true,D,F),f,C,⟨CM (by show ET (n+1+1) t (.cons h hk r)=false;rw[Db O Y Z h4 Q,h7,h8,U,K];rfl),(λhz=>by cases hz),Nat.zero_le _⟩,d.exm,d.res,⟨Bc.nil _ _ _ _,tQ⟩⟩));refine Ae 14 [2] (y<|λ_=>CI (XX:=λ_ _=>False) C C (eC AD C C) (λw f d=>(B6 w f d.vl G b0 l0 c0 d.res (d.mi G C).2.1 t _ _ _).retP) (λ_=>Bm.stab) (λ_=>trivial) (λ_ _ _ _ _ h=>h.elim) ?_);rintro⟨D,F⟩ -;exact Ae 5 [1] (y<|λ_=>A5 (λw f d=>Ao C (Ab C A2 d.k1 C)) (λw f d=>⟨(⟨0,0,0,[],0,.nil⟩,none,0,true,D,F),f,C,⟨CM (by show ET (n+1+1) t (.cons h hk r)=false;rw[Db O Y Z h4 Q,h7,h8,U];rfl),(λhz=>by cases hz),Nat.zero_le _⟩,d.exm,d.res,⟨Bc.nil _ _ _ _,tQ⟩⟩));refine Ae 13 [2] (y<|λ_=>BO C C (eC HP C C) (λw f d=>KQ w f d.vl t (.cons h hk r) _ _ d.f3)<|Aa 2 (λ_=>Ap 94 C C (λh8=>?_) (λh8=>?_)));refine Aa 4 (λ_=>Ap 98 C C (λU=>?_) (λU=>?_));refine Aa 5 (λ_=>Ap 101 C C (λK=>?_) (λK=>?_));refine Ae 13 [0] (y<|λ_=>LY 94 6 ?_)
   refine DK (α:=Nat×Fo×Bool×Int×Int×Nd×lV×oA×Nat) (λx=>x.2.1.len) (λx=>x.1+x.2.1.len=r.len+1∧(x.2.2.1||!x.2.1.allB (ET (n+1)))=(b0||!r.allB (ET (n+1)))∧(x.2.2.1=false→D4 x.2.2.2.2.2.1++x.2.1.names (Iv (n+1))=r.names (Iv (n+1)))∧x.2.2.2.2.2.1.sz+x.2.1.sz≤r.sz∧x.2.1.all (DP n)∧x.1=x.2.2.2.2.2.1.len+1) (λx=>(E6 0 (.pointer (some ⟨G,0,none⟩)) 3 (.pointer (some ⟨b1,0,none⟩)) 4 (.pointer (some ⟨b2,0,none⟩)) 5 (.pointer (some ⟨b3,0,none⟩)) 8 (.int .i64 (r.len:Int)) 9 (.int .i64 (x.1:Int)))) (λx=>⟨λb=>b=G,λb=>b=G,Bm 92 G x.2.2.1 x.2.2.2.1 x.2.2.2.2.1,w,f⟩) (λx=>[⟨b3,GQ 27 t.ln t.co t.tx 0 x.2.2.2.2.2.2.2.1 x.2.2.2.2.2.1.len x.2.2.2.2.2.2.2.2,94,true⟩,⟨b2,GQ 0 0 0 [] 0 none 0 0,94,true⟩,⟨b1,LQ t (some ⟨eb,eo,none⟩:oA) (r.len+1) kc,99,true⟩]) (λx=>[⟨94,6,x.2.2.2.2.2.2.2.1,x.2.2.2.2.2.2.2.2,x.2.2.2.2.2.1.len,x.2.2.2.2.2.2.1⟩]) (λx=>[]) (λx=>[λw f=>Bt w f (some ⟨eb,eo,none⟩) x.1 x.2.1,λw f=>BH w f x.2.2.2.2.2.1 x.2.2.2.2.2.2.1]) ((1,r,b0,l0,c0,.nil,[],none,0)) ⟨Nat.add_comm _ _,C,(λ_=>C),Nat.le_of_eq (Nat.zero_add _),HJ n r hko.2.2.2 hdp.2,C⟩ lE (λw f d=>(d.more (B':=[]) (F':=[λw f=>Bt w f (some ⟨eb,eo,none⟩) 1 r,λw f=>BH w f .nil []]) nE (AR.mem ⟨d.f1,C,tQ⟩) (Au.mem ⟨Bt.mono,BH.mono,tQ⟩)).less (sK (sK (sK sZ))) sR nE (mR [0,1])) ?_;rintro⟨i,r2,b2,l2,c2,dn,xs,oa,oc⟩ ⟨hi,hb,hn,hds,hr2,hdl⟩;dsimp only at hi hb hn hds hr2 hdl ⊢;refine Aa 7 (λ_=>Ap 109 C C (λJ=>?_) (λJ=>?_));refine Aa 3 (λ_=>BN C C (λw f d=>Ai C H8 d.res C)<|Aa 4 (λ_=>Ap 115 C C (λW=>?_) (λW=>?_)));replace W:=B5 W;refine Aa 5 (λ_=>?_);have hir:i≤r.len:=by have:=dT J;omega
   obtain⟨t2,k2,r2,rfl⟩:=Fo.cases1 r2 oM;have hi2:i+(r2.len+1)=r.len+1:=hi;obtain rfl:b2=false:=W
   rotate_left
   replace W:=B3 W;refine Aa 3 (λ_=>Df<|Ae 9 [0,1] (y<|y<|λ_=>?_));obtain rfl:b2=true:=W;exact A5 (λw f d=>Ao C (Ab C A2 d.k1 C)) (λw f d=>let ⟨f2,L,hF⟩:=G8 d d.f1;⟨(⟨27,t.ln,t.co,t.tx,0,dn⟩,oa,oc,true,l2,c2),f2,C,⟨by rw[(show ET (n+1+1) t (.cons h hk r)=r.allB (ET (n+1)) by rw[Db O Y Z h4 Q,h7,h8,U,K];rfl)];exact QG hb,(λhz=>by cases hz),show dn.sz≤hk.sz+r.sz+1 by omega⟩,L.exm,L.res,⟨hF,tQ⟩⟩);refine Aa 11 (λ_=>Df<|Ae 9 [0,1] (y<|y<|λ_=>?_));obtain rfl:r2=.nil:=Fo.len0 (by have:=dF J;omega);exact A5 (λw f d=>Ao C (Ab C A2 d.k1 C)) (λw f d=>let ⟨f2,L,hF⟩:=G8 d d.f1;⟨(⟨27,t.ln,t.co,t.tx,0,dn⟩,oa,oc,b2,l2,c2),f2,C,⟨by rw[(show ET (n+1+1) t (.cons h hk r)=r.allB (ET (n+1)) by rw[Db O Y Z h4 Q,h7,h8,U,K];rfl)];exact Re hb,(λhz=>by rw[(show Iv (n+1+1) t (.cons h hk r)=r.names (Iv (n+1)) from Oa O Y Z h4 Q)];exact hn hz),show dn.sz≤hk.sz+r.sz+1 by omega⟩,L.exm,L.res,⟨hF,tQ⟩⟩);refine Ae 5 [2] (y<|λ_=>CI (XX:=λ_ _=>False) C C (eC AD C C) (λw f d=>(B6 w f d.vl G b0 l0 c0 d.res (d.mi G C).2.1 t _ _ _).retP) (λ_=>Bm.stab) (λ_=>trivial) (λ_ _ _ _ _ h=>h.elim) ?_);rintro⟨D,F⟩ -;exact Ae 5 [1] (y<|λ_=>A5 (λw f d=>Ao C (Ab C A2 d.k1 C)) (λw f d=>⟨(⟨0,0,0,[],0,.nil⟩,none,0,true,D,F),f,C,⟨CM (by show ET (n+1+1) t (.cons h hk r)=false;rw[Db O Y Z h4 Q,h7,h8,U,K];rfl),(λhz=>by cases hz),Nat.zero_le _⟩,d.exm,d.res,⟨Bc.nil _ _ _ _,tQ⟩⟩));refine Ae 10 [2] (y<|λ_=>CI (XX:=λ_ _=>False) C C (eC AD C C) (λw f d=>(B6 w f d.vl G b0 l0 c0 d.res (d.mi G C).2.1 t _ _ _).retP) (λ_=>Bm.stab) (λ_=>trivial) (λ_ _ _ _ _ h=>h.elim) ?_);rintro⟨D,F⟩ -;exact Ae 5 [1] (y<|λ_=>A5 (λw f d=>Ao C (Ab C A2 d.k1 C)) (λw f d=>⟨(⟨0,0,0,[],0,.nil⟩,none,0,true,D,F),f,C,⟨CM (by show ET (n+1+1) t (.cons h hk r)=false;rw[Db O Y Z h4 Q,h7,h8,U];rfl),(λhz=>by cases hz),Nat.zero_le _⟩,d.exm,d.res,⟨Bc.nil _ _ _ _,tQ⟩⟩));refine Ae 14 [2] (y<|λ_=>CI (XX:=λ_ _=>False) C C (eC AD C C) (λw f d=>(B6 w f d.vl G b0 l0 c0 d.res (d.mi G C).2.1 t _ _ _).retP) (λ_=>Bm.stab) (λ_=>trivial) (λ_ _ _ _ _ h=>h.elim) ?_);rintro⟨D,F⟩ -;exact Ae 5 [1] (y<|λ_=>A5 (λw f d=>Ao C (Ab C A2 d.k1 C)) (λw f d=>⟨(⟨0,0,0,[],0,.nil⟩,none,0,true,D,F),f,C,⟨CM (by show ET (n+1+1) t (.cons h hk r)=false;rw[Db O Y Z h4 Q,h7,h8];rfl),(λhz=>by cases hz),Nat.zero_le _⟩,d.exm,d.res,⟨Bc.nil _ _ _ _,tQ⟩⟩))
   all_goals
     refine MY 0 C ?_;rintro⟨ka2,kc2⟩;have hr3:dn.sz+(k2.sz+r2.sz+1)≤r.sz:=hds;refine Cq [1,2] Aj (rd [0,2,3,4,5,6,7] (.br 1 (.br 8 (.br 9 (.br 10 (.rd 11 (.br 12 .fin .fin)) .fin) .fin) .fin) (.br 8 (.br 1 (.br 9 (.br 10 (.rd 11 (.br 12 .fin .fin)) .fin) .fin) (.br 9 (.br 1 (.br 10 (.rd 11 (.br 12 .fin .fin)) .fin) .fin) .fin)) .fin))) C kR<|By 7 [1,100,0] (y<|And.intro (by first|omega|(simp only[Fo.len];omega)|(simp[Fo.len]))<|y2<|λ_=>?_)
     · refine Cl C ?_ ?_
       refine Ae 2 [0] (y<|λ_=>Ar [1,2] C<|Ak C<|CI (XX:=λ_ _=>False) C C (eC Q0 C C) (λw f d=>(ih n C w f d.vl G false l2 c2 d.res (d.mi G C).2.1 t2 k2 _ _ hr2.1 oM d.f0).retP) (λ_=>Bm.stab) (λ_=>⟨Bc.mono,tQ⟩) (λ_ _ _ _ _ h=>h.elim) ?_);rintro⟨q1,q1a,q1k,q1b,q1l,q1c⟩ hq1;dsimp only at hq1 ⊢;refine Aa 1 (λ_=>Ar [1,2] C<|Ak C<|Aa 2 (λb4=>λ_=>?_))
       rotate_left
       refine Ak C<|CI (XX:=λ_ _=>False) C C (eC Q0 C C) (λw f d=>(ih n C w f d.vl G false l2 c2 d.res (d.mi G C).2.1 t2 k2 _ _ hr2.1 oM d.f0).retP) (λ_=>Bm.stab) (λ_=>⟨Bc.mono,tQ⟩) (λ_ _ _ _ _ h=>h.elim) ?_;rintro⟨q1,q1a,q1k,q1b,q1l,q1c⟩ hq1;dsimp only at hq1 ⊢;refine Aa 1 (λ_=>Ar [1,2] C<|Cl C ?_ ?_);refine Ae 2 [0] (y<|λ_=>Ar [1,2] C<|Ak C<|Aa 2 (λb4=>λ_=>?_))
       rotate_left
       refine Ak C<|Aa 2 (λb4=>λ_=>Ar [2,3] C<|Ak C<|Ae 2 [1] (y<|λ_=>?_))
       all_goals
         refine Ar [2,3] C<|Ak C<|Dd 0 0 C C IM C C C C C C C C (λ_ _=>C) oM oM λoa2 oc2=>Aa 1 (λ_=>Ar [2,3] C<|Bf 1 (λ_=>Ak C<|Ae 2 [1] (y<|λ_=>Ar [2,3] C<|BG ?_)));exact Aa 7 (And.intro ⟨oM,oM⟩<|λ_=>Ce ((i+1,r2,q1b,q1l,q1c,(dn.app q1.one),xs++GQ q1.op q1.ln q1.co q1.tx q1.nm q1a q1.kids.len q1k,oa2,oc2)) (show r2.len<r2.len+1 from Nat.lt_succ_self _) ⟨show i+1+r2.len=r.len+1 by omega,Pa hb hq1.1,(λU=>by show D4 (dn.app q1.one)++r2.names _=_;rw[Wb,hq1.2.1 U,List.append_assoc];exact hn C),(by show (dn.app q1.one).sz+r2.sz≤r.sz;rw[Nd.sz_app];have h8:=hq1.2.2;show dn.sz+(q1.kids.sz+0+1)+r2.sz≤r.sz;omega),hr2.2,(by show i+1=(dn.app q1.one).len+1;rw[Nd.app_len];show i+1=dn.len+1+1;omega)⟩ lE (λw f d=>⟨_,(by have e:(dn.app q1.one).len=dn.len+1:=(Nd.app_len _ _);dsimp only;rw[e];exact (d.more (B':=[]) (F':=[λw f=>BH w f (dn.app q1.one) (xs++GQ q1.op q1.ln q1.co q1.tx q1.nm q1a q1.kids.len q1k)]) nE (AR.mem ⟨BH.app (BH.one d.f0) d.f4,tQ⟩) (Au.mem ⟨BH.mono,tQ⟩)).less (sD (sK (sK (sK sZ)))) sR nE (mR [3,0]))⟩))

theorem zC:∀n,PaT n
 |0=>λw f d D b0 F c0 G J t k ka kc K L O=>PF 0 (λ_ Q=>by cases Q) w f d D b0 F c0 G J t k ka kc K L O
 |n+1=>λw f d D b0 F c0 G J t k ka kc K L O=>PF (n+1) (λn' h=>by cases h;exact zC n) w f d D b0 F c0 G J t k ka kc K L O
theorem tarm(n:Nat)(ex:Aq→Fo→Bool)(ihx:wQ 97 n ex)(w:wO)(f:Fq)(hv:Vl w f)(F:Nat)(b0:Bool)(l0 c0:Int)(hX:Bm 92 F b0 l0 c0 w f)(hf:f F=0)(t:Aq)(k:Fo)(ka:oA)(kc:Nat)(hp:DP n t k)(hsz:k.sz≤100000)(hL:Bq w f k ka kc) :
   AX prog 128 #[.pointer (some ⟨F,0,none⟩),fV t ka k.len kc] w (kY 92 F b0 (TQ (n+1) ex t k) w f):=by
 refine Gb (X:=⟨λb=>b=F,λb=>b=F,Bm 92 F b0 l0 c0,w,f⟩) (H:=[]) (R:=[]) (B:=[]) (Fs:=[λw f=>Bq w f k ka kc]) (f:=f) func128 C C C (JF (M:=λb=>b=F) (I:=Bm 92 F b0 l0 c0) hv hX Bm.stab (λb hb=>by cases hb;exact⟨AS.lt hX,hf⟩) ⟨hL,tQ⟩ ⟨Bq.mono,tQ⟩)<|Aa 8 (λb1=>λb2=>λ_=>?_);have hall:=MK hp
 · rcases Fo.two k with ⟨p,W,b,bk,rfl⟩|hne
   have hszk:W.sz+(bk.sz+0+1)+1≤100000:=hsz;refine JN 0 C<|Hr 0 C ?_;rintro⟨O,Q,Y,Z⟩ rfl;refine MY 1 C ?_;rintro⟨k1a,k1c⟩;refine Ae 2 [1] (y<|λ_=>BO C C (eC HQ C C) (λw f D=>Lf w f D.vl t _ _ _)<|Aa 2 (λ_=>Ap 13 C C (λL=>?_) (λL=>?_)));replace L:=B5 L;refine Ae 12 [1] (y<|λ_=>CI (XX:=λ_ _=>False) C C (eC AD C C) (λw f D=>(B6 w f D.vl F b0 l0 c0 D.res (D.mi F C).2.1 t _ _ _).retP) (λ_=>Bm.stab) (λ_=>trivial) (λ_ _ _ _ _ h=>h.elim) ?_);rintro⟨G,J⟩ -;exact Ae 5 [0] (y<|λ_=>A5 (λw f D=>Ao C (Ab C A2 D.k0 C)) (λw f D=>⟨(EM,true,G,J),f,C,(by show true=(b0||!TQ (n+1) ex t (.cons p W (.cons b bk .nil)));exact CM (by show ((t.k==0)&&_)=false;rw[L];rfl)),D.exm,D.res,tQ⟩));replace L:=B3 L;refine Ae 7 [1] (y<|λ_=>Ap 18 C C (λh2=>?_) (λh2=>?_));simp[Fo.len] at h2;refine Ae 20 [1,0,2,101,0] (y<|λb3=>y<|y<|And.intro (by first|omega|(simp only[Fo.len];omega))<|y2<|λ_=>CI (XX:=λ_ _=>False) C C (eC Q0 C C) (λw f D=>(zC n w f D.vl F b0 l0 c0 D.res (D.mi F C).2.1 p W _ _ hall.1 oM D.f2).retP) (λ_=>Bm.stab) (λ_=>⟨Bc.mono,tQ⟩) (λ_ _ _ _ _ h=>h.elim) ?_);rintro⟨d,q1a,q1k,q1b,q1l,q1c⟩ U;dsimp only at U ⊢;refine Ae 7 [0,0] (λb4=>y<|y<|λ_=>?_);have hqz:d.kids.sz≤W.sz:=U.2.2;have hvl:(D4 (.cons d.op d.ln d.co d.tx d.nm d.kids .nil)).length≤d.kids.sz+0+1:=MZ _;refine CR C C (eC Wu C C) (λw f D=>YV (d.kids.sz+1) w f D.vl d.op d.ln d.co d.nm d.tx d.kids q1a q1k (Nat.lt_succ_self _) oM D.f0) (λx=>⟨Dc.mono,tQ⟩) ?_;rintro⟨va,vc⟩ -;dsimp only;refine Aa 10 (λ_=>?_);refine DK (α:=Nat) (λi=>(D4 (.cons d.op d.ln d.co d.tx d.nm d.kids .nil)).length-i) (λi=>i≤(D4 (.cons d.op d.ln d.co d.tx d.nm d.kids .nil)).length∧CU ((D4 (.cons d.op d.ln d.co d.tx d.nm d.kids .nil)).take i)=true) (λi=>(E7 0 (.pointer (some ⟨F,0,none⟩)) 3 (.pointer (some ⟨b1,0,none⟩)) 4 (.pointer (some ⟨b2,0,none⟩)) 5 (.pointer (some ⟨b3,0,none⟩)) 6 (.pointer (some ⟨b4,0,none⟩)) 7 (.slice va (D4 (.cons d.op d.ln d.co d.tx d.nm d.kids .nil)).length vc) 8 (.int .i64 (i:Int)))) (λi=>⟨λb=>b=F,λb=>b=F,Bm 92 F q1b q1l q1c,w,f⟩) (λi=>[⟨b4,GQ d.op d.ln d.co d.tx d.nm q1a d.kids.len q1k,94,true⟩,⟨b3,GQ 18 t.ln t.co [] 0 none 0 0,94,true⟩,⟨b2,GQ 0 0 0 [] 0 none 0 0,94,true⟩,⟨b1,LQ t (some ⟨O,Q,none⟩) 2 kc,99,true⟩]) (λi=>[]) (λi=>[⟨O,Q+0*6,LQ p Y W.len Z⟩,⟨O,Q+1*6,LQ b k1a bk.len k1c⟩]) (λi=>[λw f=>Bq w f W Y Z,λw f=>Bq w f bk k1a k1c,λw f=>Dc sC w f (D4 (.cons d.op d.ln d.co d.tx d.nm d.kids .nil)) va vc]) (0) ⟨Nat.zero_le _,C⟩ lE (λw f D=>D.less (sK (sK (sK (sK sZ)))) sR (λe h=>by rcases List.mem_cons.1 h with rfl|h;exact .tail _ (.head _);rcases List.mem_cons.1 h with rfl|h;exact .head _;cases h) (mR [4,2,0])) ?_;rintro i ⟨hi,hnd⟩
   refine Aa 9 (λ_=>Ap 37 C C (λh3=>?_) (λh3=>?_));refine Aa 11 (λ_=>?_);have hil:i<(D4 (.cons d.op d.ln d.co d.tx d.nm d.kids .nil)).length:=by have:=dT h3;omega
   obtain⟨v1,hv1⟩:∃v,(D4 (.cons d.op d.ln d.co d.tx d.nm d.kids .nil))[i]?=some v:=⟨_,List.getElem?_eq_getElem hil⟩;refine DK (α:=Nat) (λk=>i-k) (λk=>k≤i∧((D4 (.cons d.op d.ln d.co d.tx d.nm d.kids .nil)).take k).contains v1=false) (λk=>(E8 0 (.pointer (some ⟨F,0,none⟩)) 3 (.pointer (some ⟨b1,0,none⟩)) 4 (.pointer (some ⟨b2,0,none⟩)) 5 (.pointer (some ⟨b3,0,none⟩)) 6 (.pointer (some ⟨b4,0,none⟩)) 7 (.slice va (D4 (.cons d.op d.ln d.co d.tx d.nm d.kids .nil)).length vc) 8 (.int .i64 (i:Int)) 9 (.int .i64 (k:Int)))) (λk=>⟨λb=>b=F,λb=>b=F,Bm 92 F q1b q1l q1c,w,f⟩) (λk=>[⟨b4,GQ d.op d.ln d.co d.tx d.nm q1a d.kids.len q1k,94,true⟩,⟨b3,GQ 18 t.ln t.co [] 0 none 0 0,94,true⟩,⟨b2,GQ 0 0 0 [] 0 none 0 0,94,true⟩,⟨b1,LQ t (some ⟨O,Q,none⟩) 2 kc,99,true⟩]) (λk=>[]) (λk=>[⟨O,Q+0*6,LQ p Y W.len Z⟩,⟨O,Q+1*6,LQ b k1a bk.len k1c⟩]) (λk=>[λw f=>Bq w f W Y Z,λw f=>Bq w f bk k1a k1c,λw f=>Dc sC w f (D4 (.cons d.op d.ln d.co d.tx d.nm d.kids .nil)) va vc]) (0) ⟨Nat.zero_le _,C⟩ lE (λw f D=>D.less (sK (sK (sK (sK sZ)))) sR (λe h=>by rcases List.mem_cons.1 h with rfl|h;exact .head _;rcases List.mem_cons.1 h with rfl|h;exact .tail _ (.head _);cases h) (mR [0,1,2])) ?_;rintro k ⟨hk,hno⟩;refine Aa 8 (λ_=>Ap 42 C C (λh4=>?_) (λh4=>?_));refine Aa 6 (λ_=>?_);have hki:k<i:=by have:=dT h4;omega
   obtain⟨v2,hv2⟩:∃v,(D4 (.cons d.op d.ln d.co d.tx d.nm d.kids .nil))[k]?=some v:=⟨_,List.getElem?_eq_getElem oM⟩;refine Hh (α:=Nat×Nat) (λx=>va=some ⟨x.1,x.2,none⟩) (λx=>[⟨x.1,x.2+i*1,[S v1]⟩,⟨x.1,x.2+k*1,[S v2]⟩]) (λx=>[]) (λw f D=>let ⟨b1,o1,g1,g2⟩:=Dc.get 1 (λ_=>C) D.f2 hv1;let ⟨b2,o2,g3,g4⟩:=Dc.get 1 (λ_=>C) D.f2 hv2;⟨(b1,o1),g1,(λe he=>by cases g1.symm.trans g3;rcases List.mem_cons.1 he with rfl|he;exact g2;rcases List.mem_singleton.1 he with rfl;exact g4),λ_ h=>by cases h⟩) (λx=>Au.mem tQ) ?_;rintro⟨vb,vq⟩ rfl;refine Cq [0,1,2,3] Aj (rd [0,1,2,3,4,5,6,7,8] .fin) C kR<|By 9 [100,0,101,0] (And.intro (by first|omega|(simp only[Fo.len];omega))<|y2<|And.intro (by first|omega|(simp only[Fo.len];omega))<|y2<|λ_=>BG<|Aa 1 (λ_=>Ap 53 C C (λh5=>?_) (λh5=>?_)));refine Ae 8 [3,102,0] (y<|And.intro (by first|omega|(simp only[Fo.len];omega))<|y2<|λ_=>CI (XX:=λ_ _=>False) C C (eC AD C C) (λw f D=>(B6 w f D.vl F q1b q1l q1c D.res (D.mi F C).2.1 p _ _ _).retP) (λ_=>Bm.stab) (λ_=>trivial) (λ_ _ _ _ _ h=>h.elim) ?_);rintro⟨G,J⟩ -;refine Ae 6 [2] (y<|λ_=>Hf<|Aa 3 (λ_=>Hf<|Aa 2 (λ_=>?_)));obtain rfl:=eq_of_beq h5;exact A5 (λw f D=>Ao C (Ab C A2 D.k2 C)) (λw f D=>⟨(EM,true,G,J),f,C,(by show true=(b0||!TQ (n+1) ex t (.cons p W (.cons b bk .nil)));show true=(b0||!((t.k==0)&&_));rw[L,Bool.true_and];exact aK U.1 (λK=>by rw[← U.2.1 K];exact Xk hv1 hv2 hki)),D.exm,D.res,tQ⟩);refine Aa 9 (And.intro ⟨oM,oM⟩<|λ_=>?_);have hno2:((D4 (.cons d.op d.ln d.co d.tx d.nm d.kids .nil)).take (k+1)).contains v1=false:=by rw[CZ hv2];have K:¬v1=v2:=(by simpa using h5);have h98:v1∉(D4 (.cons d.op d.ln d.co d.tx d.nm d.kids .nil)).take k:=(by simpa using hno);simp[K,h98]
   exact Ce (k+1) (show i-(k+1)<i-k by omega) ⟨show k+1≤i by omega,hno2⟩ lE (λw f D=>⟨_,D.less (sK (sK (sK (sK sZ)))) sR (λe h=>by rcases List.mem_cons.1 h with rfl|h;exact .tail _ (.tail _ (.head _));rcases List.mem_cons.1 h with rfl|h;exact .tail _ (.tail _ (.tail _ (.head _)));cases h) (mR [0,1,2])⟩);refine Aa 3 (λ_=>Df<|Aa 8 (And.intro ⟨oM,oM⟩<|λ_=>?_));obtain rfl:k=i:=by have:=dF h4;omega
   exact Ce (k+1) (show (D4 (.cons d.op d.ln d.co d.tx d.nm d.kids .nil)).length-(k+1)<(D4 (.cons d.op d.ln d.co d.tx d.nm d.kids .nil)).length-k by omega) ⟨show k+1≤_ by omega,(by rw[I5 hv1,hnd,hno];rfl)⟩ lE (λw f D=>⟨_,D.less (sK (sK (sK (sK sZ)))) sR (λe h=>by rcases List.mem_cons.1 h with rfl|h;exact .head _;rcases List.mem_cons.1 h with rfl|h;exact .tail _ (.head _);cases h) (mR [0,1,2])⟩);refine Aa 3 (λ_=>Df<|Aa 3 (λ_=>Cq [0,2,3] Aj (rd [0,1,2,3,4,5] (.br 6 (.br 7 (.rd 8 (.br 9 .fin .fin)) .fin) .fin)) C kR<|By 6 [0,2,101,0] (y<|y<|And.intro (by first|omega|(simp only[Fo.len];omega))<|y2<|λ_=>Ak C<|CI (XX:=λ_ _=>False) C C (eC Uy C C) (λw f D=>(ihx w f D.vl F q1b q1l q1c D.res (D.mi F C).2.1 b bk _ _ hall.2.1 oM D.f1).retP) (λ_=>Bm.stab) (λ_=>trivial) (λ_ _ _ _ _ h=>h.elim) ?_)));rintro⟨x1,x1b,x1l,x1c⟩ hx1;dsimp only at hx1 ⊢;refine Aa 1 (λ_=>Ar [0,2,3] C<|Ak C<|Aa 2 (λb5=>λ_=>Ar [1,3,4] C<|Bf 1 (λ_=>Ak C<|Ae 2 [2] (y<|λ_=>Ar [1,3,4] C<|BG ?_))));refine Ae 8 [2,3] (y<|y<|λ_=>?_);have hie:i=(D4 (.cons d.op d.ln d.co d.tx d.nm d.kids .nil)).length:=by have:=dF h3;omega
   rw[List.take_of_length_le (by omega)] at hnd;exact A5 (λw f D=>Ao C (Ab C A2 D.k3 C)) (λw f D=>⟨(⟨18,t.ln,t.co,[],0,some ⟨b5,0,none⟩,2,2⟩,x1b,x1l,x1c),f,C,(by show x1b=(b0||!TQ (n+1) ex t (.cons p W (.cons b bk .nil)));show x1b=(b0||!((t.k==0)&&_));rw[L,Bool.true_and];exact iE U.1 hx1 (λK=>by rw[← U.2.1 K];exact hnd)),D.exm,D.res,tQ⟩);refine Ae 2 [1] (y<|λ_=>BO C C (eC HQ C C) (λw f D=>Lf w f D.vl t _ _ _)<|Aa 2 (λ_=>Ap 13 C C (λL=>?_) (λL=>?_)));replace L:=B5 L;refine Ae 12 [1] (y<|λ_=>?_)
   rotate_left
   replace L:=B3 L;refine Ae 7 [1] (y<|λ_=>Ap 18 C C (λh2=>?_) (λh2=>?_));refine Ae 5 [1] (y<|λ_=>?_)
   rotate_left
   exact absurd (by have K:((k.len:Int) != 2)=false:=h2;have:=bne_eq_false_iff_eq.1 K;omega) hne
   all_goals
     refine CI (XX:=λ_ _=>False) C C (eC AD C C) (λw f D=>(B6 w f D.vl F b0 l0 c0 D.res (D.mi F C).2.1 t _ _ _).retP) (λ_=>Bm.stab) (λ_=>trivial) (λ_ _ _ _ _ h=>h.elim) ?_;rintro⟨G,J⟩ -;exact Ae 5 [0] (y<|λ_=>A5 (λw f D=>Ao C (Ab C A2 D.k0 C)) (λw f D=>⟨(EM,true,G,J),f,C,(by show true=(b0||!TQ (n+1) ex t k);exact CM (Qf hne)),D.exm,D.res,tQ⟩))

theorem FT(n:Nat)(M:Aq→Fo→Bool)(ihx:wQ 97 n M)(w:wO)(f:Fq)(hv:Vl w f)(D:Nat)(b0:Bool)(Y c0:Int)(hX:Bm 92 D b0 Y c0 w f)(hf:f D=0)(l:Fo)(K:oA)(lc:Nat)(O:l.all (DP n))(hsz:l.sz≤100000)(hL:Bq w f l K lc) :
   AX prog 65 #[.pointer (some ⟨D,0,none⟩),.slice K l.len lc] w (bJ (α:=List NR×Bool×Int×Int) 94 6 (λy a c=>.slice a y.1.length c) (λy=>y.1.length) (λy=>y.1.flatMap JE) (λy=>y.2.1=(b0||!l.allB M)∧y.1.length≤l.len∧(y.2.1=false→y.1.length=l.len)) (λb=>b=D) (λy=>Bm 92 D y.2.1 y.2.2.1 y.2.2.2) w f):=by
 have hlen:=Fo.len_sz l;refine Gb (X:=⟨λb=>b=D,λb=>b=D,Bm 92 D b0 Y c0,w,f⟩) (H:=[]) (R:=[]) (B:=[]) (Fs:=[λw f=>Bq w f l K lc]) (f:=f) func65 C C C (JF (M:=λb=>b=D) (I:=Bm 92 D b0 Y c0) hv hX Bm.stab (λb L=>by cases L;exact⟨AS.lt hX,hf⟩) ⟨hL,tQ⟩ ⟨Bq.mono,tQ⟩)<|Aa 17 (λ_=>LY 94 6 ?_);refine DK (α:=Nat×Fo×Bool×Int×Int×List NR×oA×Nat) (λx=>x.2.1.len) (λx=>x.1+x.2.1.len=l.len∧(x.2.2.1||!x.2.1.allB M)=(b0||!l.allB M)∧x.2.2.2.2.2.1.length=x.1∧x.2.1.all (DP n)∧x.2.1.sz≤l.sz) (λx=>(E4 0 (.pointer (some ⟨D,0,none⟩)) 1 (.slice K l.len lc) 5 (.slice x.2.2.2.2.2.2.1 x.2.2.2.2.2.1.length x.2.2.2.2.2.2.2) 6 (.int .i64 (x.1:Int)))) (λx=>⟨λb=>b=D,λb=>b=D,Bm 92 D x.2.2.1 x.2.2.2.1 x.2.2.2.2.1,w,f⟩) (λx=>[]) (λx=>[⟨94,6,x.2.2.2.2.2.2.1,x.2.2.2.2.2.2.2,x.2.2.2.2.2.1.length,x.2.2.2.2.2.1.flatMap JE⟩]) (λx=>[]) (λx=>[λw f=>Bt w f K x.1 x.2.1]) ((0,l,b0,Y,c0,[],none,0)) ⟨Nat.zero_add _,C,C,O,Nat.le_refl _⟩ lE (λw f d=>d.more (B':=[]) (F':=[λw f=>Bt w f K 0 l]) nE (AR.mem ⟨Bq.at d.f0,tQ⟩) (Au.mem ⟨Bt.mono,tQ⟩) |>.less sR sR nE (mR [0])) ?_;rintro⟨i,r,b2,l2,c2,F,oa,oc⟩ ⟨hi,L,Q,G,U⟩;dsimp only at hi L Q G U ⊢;refine Aa 8 (λ_=>Ap 11 C C (λh1=>?_) (λh1=>?_));refine Aa 3 (λ_=>BN C C (λw f d=>Ai C H8 d.res C)<|Aa 4 (λ_=>Ap 17 C C (λJ=>?_) (λJ=>?_)));replace J:=B5 J;refine Aa 5 (λ_=>?_);have hil:i<l.len:=by have:=dT h1;omega
 obtain⟨t,k,r,rfl⟩:=Fo.cases1 r oM;have hi2:i+(r.len+1)=l.len:=hi;have hrs2:k.sz+r.sz+1≤l.sz:=U;obtain rfl:b2=false:=J;refine Hr 0 C ?_;rintro⟨eb,eo,ka,kc⟩ rfl;refine Ae 7 [100,0] (And.intro oM<|y2<|λ_=>CI (XX:=λ_ _=>False) C C (eC Uy C C) (λw f d=>(ihx w f d.vl D false l2 c2 d.res (d.mi D C).2.1 t k _ _ G.1 oM d.f0).retP) (λ_=>Bm.stab) (λ_=>trivial) (λ_ _ _ _ _ h=>h.elim) ?_);rintro⟨Z,x1b,x1l,x1c⟩ W;dsimp only at W ⊢;exact Aa 1 (λb1=>λ_=>Dd 0 0 C C IM C C C C C C C C (λ_ _=>C) oM oM λoa2 oc2=>Aa 9 (And.intro ⟨oM,oM⟩<|λ_=>Ce ((i+1,r,x1b,x1l,x1c,F++[Z],oa2,oc2)) (show r.len<r.len+1 from Nat.lt_succ_self _) ⟨show i+1+r.len=_ by omega,Pa L W,(by show (F++[Z]).length=i+1;simp[Q]),G.2,show r.sz≤l.sz by omega⟩ ((by have e:(F++[Z]).length=F.length+1:=(by simp);dsimp only;rw[e];exact Av lE C)) (λw f d=>⟨_,(by have e:(F++[Z]).length=F.length+1:=(by simp);dsimp only;rw[e,BR];exact d.less (List.nil_sublist _) sR nE (mR [1]))⟩)));replace J:=B3 J;refine Aa 3 (λ_=>Df<|Aa 9 (λ_=>?_));obtain rfl:b2=true:=J;exact A5 (Cb C C) (λw f d=>⟨(F,true,l2,c2),oa,oc,f,C,⟨QG L,show F.length≤_ by omega,(λhz=>by cases hz)⟩,d.exm,d.row _ (.head _),KD d (.head _),d.res⟩);refine Aa 11 (λ_=>Df<|Aa 9 (λ_=>?_));obtain rfl:r=.nil:=Fo.len0 (by have:=dF h1;omega);have hil:i=l.len:=hi;exact A5 (Cb C C) (λw f d=>⟨(F,b2,l2,c2),oa,oc,f,C,⟨Re L,show F.length≤_ by omega,(λ_=>show F.length=_ by omega)⟩,d.exm,d.row _ (.head _),KD d (.head _),d.res⟩)
theorem Ku(n:Nat)(M:Aq→Fo→Bool)(ihx:wQ 95 n M)(w:wO)(f:Fq)(hv:Vl w f)(D:Nat)(b0:Bool)(Y c0:Int)(hX:Bm 92 D b0 Y c0 w f)(hf:f D=0)(l:Fo)(K:oA)(lc:Nat)(O:l.all (DP n))(hsz:l.sz≤100000)(hL:Bq w f l K lc) :
   AX prog 63 #[.pointer (some ⟨D,0,none⟩),.slice K l.len lc] w (bJ (α:=List NR×Bool×Int×Int) 94 6 (λy a c=>.slice a y.1.length c) (λy=>y.1.length) (λy=>y.1.flatMap JE) (λy=>y.2.1=(b0||!l.allB M)∧y.1.length≤l.len∧(y.2.1=false→y.1.length=l.len)) (λb=>b=D) (λy=>Bm 92 D y.2.1 y.2.2.1 y.2.2.2) w f):=by
 have hlen:=Fo.len_sz l;refine Gb (X:=⟨λb=>b=D,λb=>b=D,Bm 92 D b0 Y c0,w,f⟩) (H:=[]) (R:=[]) (B:=[]) (Fs:=[λw f=>Bq w f l K lc]) (f:=f) func63 C C C (JF (M:=λb=>b=D) (I:=Bm 92 D b0 Y c0) hv hX Bm.stab (λb L=>by cases L;exact⟨AS.lt hX,hf⟩) ⟨hL,tQ⟩ ⟨Bq.mono,tQ⟩)<|Aa 17 (λ_=>LY 94 6 ?_);refine DK (α:=Nat×Fo×Bool×Int×Int×List NR×oA×Nat) (λx=>x.2.1.len) (λx=>x.1+x.2.1.len=l.len∧(x.2.2.1||!x.2.1.allB M)=(b0||!l.allB M)∧x.2.2.2.2.2.1.length=x.1∧x.2.1.all (DP n)∧x.2.1.sz≤l.sz) (λx=>(E4 0 (.pointer (some ⟨D,0,none⟩)) 1 (.slice K l.len lc) 5 (.slice x.2.2.2.2.2.2.1 x.2.2.2.2.2.1.length x.2.2.2.2.2.2.2) 6 (.int .i64 (x.1:Int)))) (λx=>⟨λb=>b=D,λb=>b=D,Bm 92 D x.2.2.1 x.2.2.2.1 x.2.2.2.2.1,w,f⟩) (λx=>[]) (λx=>[⟨94,6,x.2.2.2.2.2.2.1,x.2.2.2.2.2.2.2,x.2.2.2.2.2.1.length,x.2.2.2.2.2.1.flatMap JE⟩]) (λx=>[]) (λx=>[λw f=>Bt w f K x.1 x.2.1]) ((0,l,b0,Y,c0,[],none,0)) ⟨Nat.zero_add _,C,C,O,Nat.le_refl _⟩ lE (λw f d=>d.more (B':=[]) (F':=[λw f=>Bt w f K 0 l]) nE (AR.mem ⟨Bq.at d.f0,tQ⟩) (Au.mem ⟨Bt.mono,tQ⟩) |>.less sR sR nE (mR [0])) ?_;rintro⟨i,r,b2,l2,c2,F,oa,oc⟩ ⟨hi,L,Q,G,U⟩;dsimp only at hi L Q G U ⊢;refine Aa 8 (λ_=>Ap 11 C C (λh1=>?_) (λh1=>?_));refine Aa 3 (λ_=>BN C C (λw f d=>Ai C H8 d.res C)<|Aa 4 (λ_=>Ap 17 C C (λJ=>?_) (λJ=>?_)));replace J:=B5 J;refine Aa 5 (λ_=>?_);have hil:i<l.len:=by have:=dT h1;omega
 obtain⟨t,k,r,rfl⟩:=Fo.cases1 r oM;have hi2:i+(r.len+1)=l.len:=hi;have hrs2:k.sz+r.sz+1≤l.sz:=U;obtain rfl:b2=false:=J;refine Hr 0 C ?_;rintro⟨eb,eo,ka,kc⟩ rfl;refine Ae 7 [100,0] (And.intro oM<|y2<|λ_=>CI (XX:=λ_ _=>False) C C (eC xG C C) (λw f d=>(ihx w f d.vl D false l2 c2 d.res (d.mi D C).2.1 t k _ _ G.1 oM d.f0).retP) (λ_=>Bm.stab) (λ_=>trivial) (λ_ _ _ _ _ h=>h.elim) ?_);rintro⟨Z,x1b,x1l,x1c⟩ W;dsimp only at W ⊢;exact Aa 1 (λb1=>λ_=>Dd 0 0 C C IM C C C C C C C C (λ_ _=>C) oM oM λoa2 oc2=>Aa 9 (And.intro ⟨oM,oM⟩<|λ_=>Ce ((i+1,r,x1b,x1l,x1c,F++[Z],oa2,oc2)) (show r.len<r.len+1 from Nat.lt_succ_self _) ⟨show i+1+r.len=_ by omega,Pa L W,(by show (F++[Z]).length=i+1;simp[Q]),G.2,show r.sz≤l.sz by omega⟩ ((by have e:(F++[Z]).length=F.length+1:=(by simp);dsimp only;rw[e];exact Av lE C)) (λw f d=>⟨_,(by have e:(F++[Z]).length=F.length+1:=(by simp);dsimp only;rw[e,BR];exact d.less (List.nil_sublist _) sR nE (mR [1]))⟩)));replace J:=B3 J;refine Aa 3 (λ_=>Df<|Aa 9 (λ_=>?_));obtain rfl:b2=true:=J;exact A5 (Cb C C) (λw f d=>⟨(F,true,l2,c2),oa,oc,f,C,⟨QG L,show F.length≤_ by omega,(λhz=>by cases hz)⟩,d.exm,d.row _ (.head _),KD d (.head _),d.res⟩);refine Aa 11 (λ_=>Df<|Aa 9 (λ_=>?_));obtain rfl:r=.nil:=Fo.len0 (by have:=dF h1;omega);have hil:i=l.len:=hi;exact A5 (Cb C C) (λw f d=>⟨(F,b2,l2,c2),oa,oc,f,C,⟨Re L,show F.length≤_ by omega,(λ_=>show F.length=_ by omega)⟩,d.exm,d.row _ (.head _),KD d (.head _),d.res⟩)
theorem Pj(n:Nat)(ih:∀n',n=n'+1→wQ 97 n' (Cv (n'+1)))(w:wO)(f:Fq)(hv:Vl w f)(J:Nat)(b0:Bool)(l0 c0:Int)(hX:Bm 92 J b0 l0 c0 w f)(hf:f J=0)(t:Aq)(k:Fo)(ka:oA)(kc:Nat)(hp:DP n t k)(hsz:k.sz≤100000)(hL:Bq w f k ka kc) :
   AX prog 97 #[.pointer (some ⟨J,0,none⟩),fV t ka k.len kc] w (kY 92 J b0 (Cv (n+1) t k) w f):=by
 refine Gb (X:=⟨λb=>b=J,λb=>b=J,Bm 92 J b0 l0 c0,w,f⟩) (H:=[]) (R:=[]) (B:=[]) (Fs:=[λw f=>Bq w f k ka kc]) (f:=f) func97 C C C (JF (M:=λb=>b=J) (I:=Bm 92 J b0 l0 c0) hv hX Bm.stab (λb hb=>by cases hb;exact⟨AS.lt hX,hf⟩) ⟨hL,tQ⟩ ⟨Bq.mono,tQ⟩)<|Ae 34 [1,1,0,2] (λb1=>λb2=>y<|y<|λb3=>y<|y<|λ_=>?_)
 · refine Ap 22 C C (λh1=>?_) (λh1=>?_)
   exact Ae 25 [0,2,0,0,1] (y<|y<|y<|y<|y<|λ_=>A5 (λw f d=>Ao C (Ab C A2 d.k1 C)) (λw f d=>⟨(⟨1,t.ln,t.co,t.tx,t.nm,none,0,0⟩,b0,l0,c0),f,C,(by show b0=(b0||!Cv (n+1) t k);exact H9 (by unfold Cv;rw[h1];rfl)),d.exm,d.res,tQ⟩));refine Aa 7 (λ_=>?_)
   focus
     refine Ap 30 C C (λh2=>?_) (λh2=>?_);exact Ae 16 [0,0,1] (y<|y<|y<|λ_=>A5 (λw f d=>Ao C (Ab C A2 d.k1 C)) (λw f d=>⟨(⟨2,t.ln,t.co,t.tx,0,none,0,0⟩,b0,l0,c0),f,C,(by show b0=(b0||!Cv (n+1) t k);exact H9 (by unfold Cv;rw[h1,h2];rfl)),d.exm,d.res,tQ⟩));refine Aa 7 (λ_=>Ap 34 C C (λh3=>?_) (λh3=>?_));exact Ae 16 [0,0,1] (y<|y<|y<|λ_=>A5 (λw f d=>Ao C (Ab C A2 d.k1 C)) (λw f d=>⟨(⟨3,t.ln,t.co,t.tx,0,none,0,0⟩,b0,l0,c0),f,C,(by show b0=(b0||!Cv (n+1) t k);exact H9 (by unfold Cv;rw[h1,h2,h3];rfl)),d.exm,d.res,tQ⟩));refine Aa 7 (λ_=>Ap 38 C C (λh4=>?_) (λh4=>?_));refine Ae 11 [0,2] (y<|y<|λ_=>BO C C (eC Kv C C) (λw f d=>Ka w f d.vl t _ _ _ hp.1.1)<|Aa 3 (λ_=>Ap 43 C C (λY=>?_) (λY=>?_)));replace Y:=B5 Y;refine Ae 5 [2] (y<|λ_=>CI (XX:=λ_ _=>False) C C (eC AD C C) (λw f d=>(B6 w f d.vl J b0 l0 c0 d.res (d.mi J C).2.1 t _ _ _).retP) (λ_=>Bm.stab) (λ_=>trivial) (λ_ _ _ _ _ h=>h.elim) ?_);rintro⟨D,F⟩ -;exact Ae 7 [1] (y<|λ_=>A5 (λw f d=>Ao C (Ab C A2 d.k1 C)) (λw f d=>⟨(EM,true,D,F),f,C,(by show true=(b0||!Cv (n+1) t k);exact CM (by unfold Cv;rw[h1,h2,h3,h4,Y];rfl)),d.exm,d.res,tQ⟩));replace Y:=B3 Y;exact Ae 12 [0,1] (y<|y<|λ_=>A5 (λw f d=>Ao C (Ab C A2 d.k1 C)) (λw f d=>⟨(⟨5,t.ln,t.co,t.tx,0,none,0,0⟩,b0,l0,c0),f,C,(by show b0=(b0||!Cv (n+1) t k);exact H9 (by unfold Cv;rw[h1,h2,h3,h4,Y];rfl)),d.exm,d.res,tQ⟩));refine Aa 7 (λ_=>Ap 48 C C (λY=>?_) (λY=>?_));exact Ae 16 [0,0,1] (y<|y<|y<|λ_=>A5 (λw f d=>Ao C (Ab C A2 d.k1 C)) (λw f d=>⟨(⟨6,t.ln,t.co,t.tx,0,none,0,0⟩,b0,l0,c0),f,C,(by show b0=(b0||!Cv (n+1) t k);exact H9 (by unfold Cv;rw[h1,h2,h3,h4,Y];rfl)),d.exm,d.res,tQ⟩));refine Ae 13 [2] (y<|λ_=>Ap 55 C C (λh6=>?_) (λh6=>?_));refine Aa 2 (λ_=>?_);obtain rfl:k=.nil:=Fo.len0 (by have h9:((k.len:Int)==0)=true:=h6;have:=beq_iff_eq.1 h9;omega);exact Ae 13 [0,0,1] (y<|y<|y<|λ_=>A5 (λw f d=>Ao C (Ab C A2 d.k1 C)) (λw f d=>⟨(⟨4,t.ln,t.co,t.tx,0,none,0,0⟩,b0,l0,c0),f,C,(by show b0=(b0||!Cv (n+1) t .nil);exact H9 (by unfold Cv;rw[h1,h2,h3,h4,Y];rfl)),d.exm,d.res,tQ⟩));refine Aa 4 (λ_=>?_);obtain⟨h,hk,r,rfl⟩:=Fo.cases1 k (by have h9:((k.len:Int)==0)=false:=h6;have:=beq_eq_false_iff_ne.1 h9;omega);have hp0:=hp;obtain⟨hto,hko,hkl,hdp⟩:=hp;have hkl2:r.len+1≤100000:=hkl;have hszk:hk.sz+r.sz+1≤100000:=hsz;obtain⟨n,rfl⟩:∃q,n=q+1:=by cases n with|zero=>exact absurd hdp (by simp[Fo.deep])|succ q=>exact⟨q,C⟩
     simp only[Fo.deep,Bool.and_eq_true] at hdp;have K:=Ol hp0;refine cW 0 C<|JN 1 C<|Hr 0 C ?_;rintro⟨eb,eo,hka,hkc⟩ rfl;refine Ae 3 [2] (y<|λ_=>BN C C (λw f d=>Cd (m:=r.len) C C C FW) ?_);generalize DL (some (⟨eb,eo,none⟩:Addr)) kc 6=la;generalize kc-1=lc;refine Ae 13 [2] (y<|λ_=>BO C C (eC HP C C) (λw f d=>KQ w f d.vl t (.cons h hk r) _ _ d.f4)<|Ae 15 [2,100,0] (y<|And.intro (by first|omega|(simp only[Fo.len];omega))<|y2<|λ_=>Ap 71 C C (λh7=>?_) (λh7=>?_)));refine Aa 7 (λ_=>Ap 74 C C (λh8=>?_) (λh8=>?_));refine Ae 10 [2] (y<|λ_=>CI (XX:=λ_ _=>False) C C (eC AD C C) (λw f d=>(B6 w f d.vl J b0 l0 c0 d.res (d.mi J C).2.1 t _ _ _).retP) (λ_=>Bm.stab) (λ_=>trivial) (λ_ _ _ _ _ h=>h.elim) ?_);rintro⟨D,F⟩ -;exact Ae 6 [1] (y<|λ_=>A5 (λw f d=>Ao C (Ab C A2 d.k1 C)) (λw f d=>⟨(EM,true,D,F),f,C,(by show true=(b0||!Cv (n+1+1) t (.cons h hk r));exact CM (by rw[AJ h1 h2 h3 h4 Y,h7,(Dg h8)];rfl)),d.exm,d.res,tQ⟩));refine Aa 5 (λ_=>Ap 77 C C (λh9=>?_) (λh9=>?_));refine Ae 5 [2] (y<|λ_=>CI (XX:=λ_ _=>False) C C (eC AD C C) (λw f d=>(B6 w f d.vl J b0 l0 c0 d.res (d.mi J C).2.1 t _ _ _).retP) (λ_=>Bm.stab) (λ_=>trivial) (λ_ _ _ _ _ h=>h.elim) ?_);rintro⟨D,F⟩ -;exact Ae 6 [1] (y<|λ_=>A5 (λw f d=>Ao C (Ab C A2 d.k1 C)) (λw f d=>⟨(EM,true,D,F),f,C,(by show true=(b0||!Cv (n+1+1) t (.cons h hk r));exact CM (by rw[AJ h1 h2 h3 h4 Y,h7,(Dg h8),(Dt h9)];rfl)),d.exm,d.res,tQ⟩));refine Ae 25 [0,2,100,4,0] (y<|y<|And.intro (by first|omega|(simp only[Fo.len];omega))<|y2<|y<|λ_=>N3 C C (eC Ec C C) (λw f d=>FT n (Cv (n+1)) (ih n C) w f d.vl J b0 l0 c0 d.res (d.mi J C).2.1 r _ _ K.2 oM d.f3) (λ_=>Bm.stab) ?_);rintro⟨xs,xb,xl,xc⟩ ra rc ⟨hx,Z,-⟩;dsimp only at hx Z ⊢;exact Ae 12 [0,0,1] (y<|y<|y<|λ_=>A5 (λw f d=>Ao C (Ab C A2 d.k1 C)) (λw f d=>⟨(⟨6,t.ln,t.co,h.tx,0,ra,xs.length,rc⟩,xb,xl,xc),f,C,(by show xb=(b0||!Cv (n+1+1) t (.cons h hk r));rw[AJ h1 h2 h3 h4 Y,h7,(Dg h8),(Dt h9)];exact hx),d.exm,d.res,tQ⟩));refine Aa 7 (λ_=>BO C C (eC eR C C) (λw f d=>pR w f d.vl _)<|Aa 3 (λ_=>Ap 96 C C (λh8=>?_) (λh8=>?_)));replace h8:=B5 h8;refine Aa 7 (λ_=>Ap 99 C C (λh9=>?_) (λh9=>?_));refine Ae 10 [2] (y<|λ_=>CI (XX:=λ_ _=>False) C C (eC AD C C) (λw f d=>(B6 w f d.vl J b0 l0 c0 d.res (d.mi J C).2.1 t _ _ _).retP) (λ_=>Bm.stab) (λ_=>trivial) (λ_ _ _ _ _ h=>h.elim) ?_);rintro⟨D,F⟩ -;exact Ae 6 [1] (y<|λ_=>A5 (λw f d=>Ao C (Ab C A2 d.k1 C)) (λw f d=>⟨(EM,true,D,F),f,C,(by show true=(b0||!Cv (n+1+1) t (.cons h hk r));exact CM (by rw[AJ h1 h2 h3 h4 Y,h7,h8,(Dg h9)];rfl)),d.exm,d.res,tQ⟩));refine Aa 5 (λ_=>Ap 102 C C (λQ=>?_) (λQ=>?_))
     refine Ae 5 [2] (y<|λ_=>CI (XX:=λ_ _=>False) C C (eC AD C C) (λw f d=>(B6 w f d.vl J b0 l0 c0 d.res (d.mi J C).2.1 t _ _ _).retP) (λ_=>Bm.stab) (λ_=>trivial) (λ_ _ _ _ _ h=>h.elim) ?_);rintro⟨D,F⟩ -;exact Ae 6 [1] (y<|λ_=>A5 (λw f d=>Ao C (Ab C A2 d.k1 C)) (λw f d=>⟨(EM,true,D,F),f,C,(by show true=(b0||!Cv (n+1+1) t (.cons h hk r));exact CM (by rw[AJ h1 h2 h3 h4 Y,h7,h8,(Dg h9),(Dt Q)];rfl)),d.exm,d.res,tQ⟩));refine Ae 14 [0,2] (y<|y<|λ_=>N3 C C (eC Ec C C) (λw f d=>FT n (Cv (n+1)) (ih n C) w f d.vl J b0 l0 c0 d.res (d.mi J C).2.1 (.cons h hk r) _ _ K hsz d.f4) (λ_=>Bm.stab) ?_);rintro⟨xs,xb,xl,xc⟩ ra rc ⟨hx,Z,-⟩;dsimp only at hx Z ⊢;exact Ae 12 [0,0,1] (y<|y<|y<|λ_=>A5 (λw f d=>Ao C (Ab C A2 d.k1 C)) (λw f d=>⟨(⟨8,t.ln,t.co,t.tx,0,ra,xs.length,rc⟩,xb,xl,xc),f,C,(by show xb=(b0||!Cv (n+1+1) t (.cons h hk r));rw[AJ h1 h2 h3 h4 Y,h7,h8,(Dg h9),(Dt Q)];exact hx),d.exm,d.res,tQ⟩));replace h8:=B3 h8;refine Aa 16 (λ_=>Ap 117 C C (λh9=>?_) (λh9=>?_));refine Aa 3 (λ_=>?_);rcases Fo.two r with ⟨p,pk,b,bk,rfl⟩|hne
     have hszl:pk.sz+(bk.sz+0+1)+1≤100000:=by have h99:hk.sz+(pk.sz+(bk.sz+0+1)+1)+1≤100000:=hszk;omega
     refine JN 3 C<|Hr 0 C ?_;rintro⟨eb0,eo0,k0a,k0c⟩ rfl;refine MY 1 C ?_;rintro⟨k1a,k1c⟩;refine Aa 4 (λ_=>Ap 121 C C (λQ=>?_) (λQ=>?_));simp[Fo.len] at Q;refine Ae 3 [101,0] (And.intro (by first|omega|(simp only[Fo.len];omega))<|y2<|λ_=>BO C C (eC HQ C C) (λw f d=>Lf w f d.vl p _ _ _)<|Aa 3 (λ_=>Ap 128 C C (λL=>?_) (λL=>?_)));replace L:=B5 L;refine Ae 22 [2] (y<|λ_=>CI (XX:=λ_ _=>False) C C (eC AD C C) (λw f d=>(B6 w f d.vl J b0 l0 c0 d.res (d.mi J C).2.1 t _ _ _).retP) (λ_=>Bm.stab) (λ_=>trivial) (λ_ _ _ _ _ h=>h.elim) ?_);rintro⟨D,F⟩ -;exact Ae 7 [1] (y<|λ_=>A5 (λw f d=>Ao C (Ab C A2 d.k1 C)) (λw f d=>⟨(EM,true,D,F),f,C,(by show true=(b0||!Cv (n+1+1) t (.cons h hk (.cons p pk (.cons b bk .nil))));exact CM (by rw[AJ h1 h2 h3 h4 Y,h7,h8,Ky h9,L];rfl)),d.exm,d.res,tQ⟩));replace L:=B3 L;refine Ae 8 [101,5] (And.intro (by first|omega|(simp only[Fo.len];omega))<|y2<|λ_=>Ap 136 C C (λO=>?_) (λO=>?_));refine Ae 14 [2] (y<|λ_=>CI (XX:=λ_ _=>False) C C (eC AD C C) (λw f d=>(B6 w f d.vl J b0 l0 c0 d.res (d.mi J C).2.1 t _ _ _).retP) (λ_=>Bm.stab) (λ_=>trivial) (λ_ _ _ _ _ h=>h.elim) ?_);rintro⟨D,F⟩ -;exact Ae 7 [1] (y<|λ_=>A5 (λw f d=>Ao C (Ab C A2 d.k1 C)) (λw f d=>⟨(EM,true,D,F),f,C,(by show true=(b0||!Cv (n+1+1) t (.cons h hk (.cons p pk (.cons b bk .nil))));exact CM (by rw[AJ h1 h2 h3 h4 Y,h7,h8,Ky h9,L,(Dg O)];rfl)),d.exm,d.res,tQ⟩));refine Ae 9 [101,5] (And.intro (by first|omega|(simp only[Fo.len];omega))<|y2<|λ_=>Ap 143 C C (λU=>?_) (λU=>?_));refine Ae 5 [2] (y<|λ_=>CI (XX:=λ_ _=>False) C C (eC AD C C) (λw f d=>(B6 w f d.vl J b0 l0 c0 d.res (d.mi J C).2.1 t _ _ _).retP) (λ_=>Bm.stab) (λ_=>trivial) (λ_ _ _ _ _ h=>h.elim) ?_);rintro⟨D,F⟩ -;exact Ae 7 [1] (y<|λ_=>A5 (λw f d=>Ao C (Ab C A2 d.k1 C)) (λw f d=>⟨(EM,true,D,F),f,C,(by show true=(b0||!Cv (n+1+1) t (.cons h hk (.cons p pk (.cons b bk .nil))));exact CM (by rw[AJ h1 h2 h3 h4 Y,h7,h8,Ky h9,L,(Dg O),(Dt U)];rfl)),d.exm,d.res,tQ⟩));refine Ae 10 [101,5] (And.intro (by first|omega|(simp only[Fo.len];omega))<|y2<|λ_=>mcs0 C C (eC W4 C C) (λw f d=>eD w f d.vl J pk _ _ (Fo.ok.all K.2.1.2.1) K.2.1.2.2.1 d.f2) ?_);rintro okx ha hc hok;refine Aa 14 (λ_=>Ap 157 C C (λW=>?_) (λW=>?_));replace W:=B5 W;refine Ae 5 [2] (y<|λ_=>CI (XX:=λ_ _=>False) C C (eC AD C C) (λw f d=>(B6 w f d.vl J b0 l0 c0 d.res (d.mi J C).2.1 t _ _ _).retP) (λ_=>Bm.stab) (λ_=>trivial) (λ_ _ _ _ _ h=>h.elim) ?_);rintro⟨D,F⟩ -;refine Ae 7 [1] (y<|λ_=>?_);obtain rfl:okx=false:=W
     exact A5 (λw f d=>Ao C (Ab C A2 d.k1 C)) (λw f d=>⟨(EM,true,D,F),f,C,(by show true=(b0||!Cv (n+1+1) t (.cons h hk (.cons p pk (.cons b bk .nil))));exact CM (by rw[AJ h1 h2 h3 h4 Y,h7,h8,Ky h9,L,(Dg O),(Dt U),← hok];rfl)),d.exm,d.res,tQ⟩);replace W:=B3 W;refine Aa 4 (λ_=>?_);obtain rfl:okx=true:=W;refine Ae 11 [0,100,0] (y<|And.intro (by first|omega|(simp only[Fo.len];omega))<|y2<|λ_=>CI (XX:=λ_ _=>False) C C (eC Uy C C) (λw f d=>(ih n C w f d.vl J b0 l0 c0 d.res (d.mi J C).2.1 b bk _ _ K.2.2.1 oM d.f0).retP) (λ_=>Bm.stab) (λ_=>trivial) (λ_ _ _ _ _ h=>h.elim) ?_);rintro⟨x1,x1b,x1l,x1c⟩ hx1;dsimp only at hx1 ⊢;exact Aa 1 (λb4=>λ_=>Dd 0 0 C C IM C C C C C C C C (λ_ _=>C) (by first|omega|(show (pk.len+1)*72≤_;have:=K.2.1.2.2.1;omega)) (by first|omega|(show pk.len+1≤_;have:=K.2.1.2.2.1;omega)) λoa2 oc2=>Ae 12 [1,1,2] (y<|y<|y<|λ_=>A5 (λw f d=>Ao C (Ab C A2 d.k2 C)) (λw f d=>⟨(⟨7,t.ln,t.co,t.tx,0,oa2,pk.len+1,oc2⟩,x1b,x1l,x1c),f,C,(by show x1b=(b0||!Cv (n+1+1) t (.cons h hk (.cons p pk (.cons b bk .nil))));rw[AJ h1 h2 h3 h4 Y,h7,h8,Ky h9,L,(Dg O),(Dt U),← hok];exact hx1),d.exm,d.res,tQ⟩)));refine Aa 4 (λ_=>Ap 121 C C (λQ=>?_) (λQ=>?_));refine Ae 29 [2] (y<|λ_=>CI (XX:=λ_ _=>False) C C (eC AD C C) (λw f d=>(B6 w f d.vl J b0 l0 c0 d.res (d.mi J C).2.1 t _ _ _).retP) (λ_=>Bm.stab) (λ_=>trivial) (λ_ _ _ _ _ h=>h.elim) ?_);rintro⟨D,F⟩ -;exact Ae 7 [1] (y<|λ_=>A5 (λw f d=>Ao C (Ab C A2 d.k1 C)) (λw f d=>⟨(EM,true,D,F),f,C,(by show true=(b0||!Cv (n+1+1) t (.cons h hk r));exact CM (by rw[AJ h1 h2 h3 h4 Y,h7,h8,Mc h9 hne];rfl)),d.exm,d.res,tQ⟩));exact absurd (by have h99:((r.len:Int) != 2)=false:=Q;have:=bne_eq_false_iff_eq.1 h99;omega) hne;refine Aa 7 (λ_=>Ap 171 C C (λQ=>?_) (λQ=>?_));refine Aa 3 (λ_=>?_);rcases Fo.three r with ⟨v,vk,e,ek,b,bk,rfl⟩|hne
     have hszl:vk.sz+(ek.sz+(bk.sz+0+1)+1)+1≤100000:=by have h99:hk.sz+(vk.sz+(ek.sz+(bk.sz+0+1)+1)+1)+1≤100000:=hszk;omega
     refine JN 3 C<|Hr 0 C ?_;rintro⟨eb0,eo0,k0a,k0c⟩ rfl;refine MY 1 C ?_;rintro⟨k1a,k1c⟩;refine MY 1 C ?_;rintro⟨k2a,k2c⟩;refine Aa 4 (λ_=>Ap 175 C C (λL=>?_) (λL=>?_));simp[Fo.len] at L;refine Ae 3 [102,0] (And.intro (by first|omega|(simp only[Fo.len];omega))<|y2<|λ_=>BO C C (eC Wd C C) (λw f d=>oH w f d.vl v _ _ _ K.2.1.1.1)<|Aa 4 (λ_=>Ap 181 C C (λO=>?_) (λO=>?_)));replace O:=B5 O;refine Ae 5 [2] (y<|λ_=>CI (XX:=λ_ _=>False) C C (eC AD C C) (λw f d=>(B6 w f d.vl J b0 l0 c0 d.res (d.mi J C).2.1 t _ _ _).retP) (λ_=>Bm.stab) (λ_=>trivial) (λ_ _ _ _ _ h=>h.elim) ?_);rintro⟨D,F⟩ -;exact Ae 7 [1] (y<|λ_=>A5 (λw f d=>Ao C (Ab C A2 d.k1 C)) (λw f d=>⟨(EM,true,D,F),f,C,(by show true=(b0||!Cv (n+1+1) t (.cons h hk (.cons v vk (.cons e ek (.cons b bk .nil)))));exact CM (by rw[AJ h1 h2 h3 h4 Y,h7,h8,MG h9 Q,O];rfl)),d.exm,d.res,tQ⟩));replace O:=B3 O;refine Ae 23 [0,102,4,0] (y<|And.intro (by first|omega|(simp only[Fo.len];omega))<|y2<|y<|λ_=>BI (λw f=>Bq w f (.cons e ek (.cons b bk .nil)) (DL (some (⟨eb0,eo0,none⟩:Addr)) lc 6) (lc-1)) (λw f d=>Bt.rest d.f10) Bq.mono<|BN C C (λw f d=>Cd (m:=2) C C C FW)<|N3 C C (eC Ec C C) (λw f d=>FT n (Cv (n+1)) (ih n C) w f d.vl J b0 l0 c0 d.res (d.mi J C).2.1 (.cons e ek (.cons b bk .nil)) _ _ K.2.2 (show ek.sz+(bk.sz+0+1)+1≤100000 by omega) d.f0) (λ_=>Bm.stab) ?_);rintro⟨xs,xb,xl,xc⟩ ra rc ⟨hx,Z,-⟩;dsimp only at hx Z ⊢;exact Ae 12 [0,0,1] (y<|y<|y<|λ_=>A5 (λw f d=>Ao C (Ab C A2 d.k1 C)) (λw f d=>⟨(⟨9,t.ln,t.co,v.tx,0,ra,xs.length,rc⟩,xb,xl,xc),f,C,(by show xb=(b0||!Cv (n+1+1) t (.cons h hk (.cons v vk (.cons e ek (.cons b bk .nil)))));rw[AJ h1 h2 h3 h4 Y,h7,h8,MG h9 Q,O];exact Ws hx),d.exm,d.res,tQ⟩));refine Aa 4 (λ_=>Ap 175 C C (λL=>?_) (λL=>?_));refine Ae 13 [2] (y<|λ_=>CI (XX:=λ_ _=>False) C C (eC AD C C) (λw f d=>(B6 w f d.vl J b0 l0 c0 d.res (d.mi J C).2.1 t _ _ _).retP) (λ_=>Bm.stab) (λ_=>trivial) (λ_ _ _ _ _ h=>h.elim) ?_);rintro⟨D,F⟩ -;exact Ae 7 [1] (y<|λ_=>A5 (λw f d=>Ao C (Ab C A2 d.k1 C)) (λw f d=>⟨(EM,true,D,F),f,C,(by show true=(b0||!Cv (n+1+1) t (.cons h hk r));exact CM (by rw[AJ h1 h2 h3 h4 Y,h7,h8,Km h9 Q hne];rfl)),d.exm,d.res,tQ⟩));exact absurd (by have h99:((r.len:Int) != 3)=false:=L;have:=bne_eq_false_iff_eq.1 h99;omega) hne;refine Aa 7 (λ_=>Ap 197 C C (λL=>?_) (λL=>?_));refine Aa 3 (λ_=>?_);rcases Fo.three r with ⟨v,vk,e,ek,b,bk,rfl⟩|hne
     have hszl:vk.sz+(ek.sz+(bk.sz+0+1)+1)+1≤100000:=by have h99:hk.sz+(vk.sz+(ek.sz+(bk.sz+0+1)+1)+1)+1≤100000:=hszk;omega
     refine JN 3 C<|Hr 0 C ?_;rintro⟨eb0,eo0,k0a,k0c⟩ rfl;refine MY 1 C ?_;rintro⟨k1a,k1c⟩;refine MY 1 C ?_;rintro⟨k2a,k2c⟩;refine Aa 4 (λ_=>Ap 201 C C (λO=>?_) (λO=>?_));simp[Fo.len] at O;refine Ae 3 [102,0] (And.intro (by first|omega|(simp only[Fo.len];omega))<|y2<|λ_=>BO C C (eC Kv C C) (λw f d=>Ka w f d.vl v _ _ _ K.2.1.1.1)<|Aa 3 (λ_=>Ap 208 C C (λU=>?_) (λU=>?_)));replace U:=B5 U;refine Ae 13 [2] (y<|λ_=>CI (XX:=λ_ _=>False) C C (eC AD C C) (λw f d=>(B6 w f d.vl J b0 l0 c0 d.res (d.mi J C).2.1 t _ _ _).retP) (λ_=>Bm.stab) (λ_=>trivial) (λ_ _ _ _ _ h=>h.elim) ?_);rintro⟨D,F⟩ -;exact Ae 7 [1] (y<|λ_=>A5 (λw f d=>Ao C (Ab C A2 d.k1 C)) (λw f d=>⟨(EM,true,D,F),f,C,(by show true=(b0||!Cv (n+1+1) t (.cons h hk (.cons v vk (.cons e ek (.cons b bk .nil)))));exact CM (by rw[AJ h1 h2 h3 h4 Y,h7,h8,Lc h9 Q L,U];rfl)),d.exm,d.res,tQ⟩));replace U:=B3 U;refine Ae 3 [101,0] (And.intro (by first|omega|(simp only[Fo.len];omega))<|y2<|λ_=>BO C C (eC HP C C) (λw f d=>KQ w f d.vl e ek _ _ d.f2)<|Aa 4 (λ_=>Ap 214 C C (λW=>?_) (λW=>?_)));refine Ae 5 [2] (y<|λ_=>CI (XX:=λ_ _=>False) C C (eC AD C C) (λw f d=>(B6 w f d.vl J b0 l0 c0 d.res (d.mi J C).2.1 t _ _ _).retP) (λ_=>Bm.stab) (λ_=>trivial) (λ_ _ _ _ _ h=>h.elim) ?_);rintro⟨D,F⟩ -;exact Ae 7 [1] (y<|λ_=>A5 (λw f d=>Ao C (Ab C A2 d.k1 C)) (λw f d=>⟨(EM,true,D,F),f,C,(by show true=(b0||!Cv (n+1+1) t (.cons h hk (.cons v vk (.cons e ek (.cons b bk .nil)))));exact CM (by rw[AJ h1 h2 h3 h4 Y,h7,h8,Lc h9 Q L,U,(show FY e ek=_ from E1 W)];rfl)),d.exm,d.res,tQ⟩));refine Ae 23 [0,102,4,0] (y<|And.intro (by first|omega|(simp only[Fo.len];omega))<|y2<|y<|λ_=>BI (λw f=>Bq w f (.cons e ek (.cons b bk .nil)) (DL (some (⟨eb0,eo0,none⟩:Addr)) lc 6) (lc-1)) (λw f d=>Bt.rest d.f10) Bq.mono<|BN C C (λw f d=>Cd (m:=2) C C C FW)<|N3 C C (eC Ec C C) (λw f d=>FT n (Cv (n+1)) (ih n C) w f d.vl J b0 l0 c0 d.res (d.mi J C).2.1 (.cons e ek (.cons b bk .nil)) _ _ K.2.2 (show ek.sz+(bk.sz+0+1)+1≤100000 by omega) d.f0) (λ_=>Bm.stab) ?_);rintro⟨xs,xb,xl,xc⟩ ra rc ⟨hx,Z,-⟩;dsimp only at hx Z ⊢;exact Ae 12 [0,0,1] (y<|y<|y<|λ_=>A5 (λw f d=>Ao C (Ab C A2 d.k1 C)) (λw f d=>⟨(⟨10,t.ln,t.co,v.tx,0,ra,xs.length,rc⟩,xb,xl,xc),f,C,(by show xb=(b0||!Cv (n+1+1) t (.cons h hk (.cons v vk (.cons e ek (.cons b bk .nil)))));rw[AJ h1 h2 h3 h4 Y,h7,h8,Lc h9 Q L,U,(show FY e ek=_ from E1 W)];exact Ws hx),d.exm,d.res,tQ⟩));refine Aa 4 (λ_=>Ap 201 C C (λO=>?_) (λO=>?_));refine Ae 20 [2] (y<|λ_=>CI (XX:=λ_ _=>False) C C (eC AD C C) (λw f d=>(B6 w f d.vl J b0 l0 c0 d.res (d.mi J C).2.1 t _ _ _).retP) (λ_=>Bm.stab) (λ_=>trivial) (λ_ _ _ _ _ h=>h.elim) ?_);rintro⟨D,F⟩ -
     exact Ae 7 [1] (y<|λ_=>A5 (λw f d=>Ao C (Ab C A2 d.k1 C)) (λw f d=>⟨(EM,true,D,F),f,C,(by show true=(b0||!Cv (n+1+1) t (.cons h hk r));exact CM (by rw[AJ h1 h2 h3 h4 Y,h7,h8,Kt h9 Q L hne];rfl)),d.exm,d.res,tQ⟩));exact absurd (by have h99:((r.len:Int) != 3)=false:=O;have:=bne_eq_false_iff_eq.1 h99;omega) hne;refine Aa 7 (λ_=>Ap 230 C C (λO=>?_) (λO=>?_));refine Aa 8 (λ_=>Ap 233 C C (λU=>?_) (λU=>?_));refine Ae 5 [2] (y<|λ_=>CI (XX:=λ_ _=>False) C C (eC AD C C) (λw f d=>(B6 w f d.vl J b0 l0 c0 d.res (d.mi J C).2.1 t _ _ _).retP) (λ_=>Bm.stab) (λ_=>trivial) (λ_ _ _ _ _ h=>h.elim) ?_);rintro⟨D,F⟩ -;exact Ae 7 [1] (y<|λ_=>A5 (λw f d=>Ao C (Ab C A2 d.k1 C)) (λw f d=>⟨(EM,true,D,F),f,C,(by show true=(b0||!Cv (n+1+1) t (.cons h hk r));exact CM (by rw[AJ h1 h2 h3 h4 Y,h7,h8];unfold HE;rw[h9,Q,L,O,(E1 U)];rfl)),d.exm,d.res,tQ⟩));refine Ae 12 [0] (y<|λ_=>N3 C C (eC Ec C C) (λw f d=>FT n (Cv (n+1)) (ih n C) w f d.vl J b0 l0 c0 d.res (d.mi J C).2.1 r _ _ K.2 oM d.f3) (λ_=>Bm.stab) ?_);rintro⟨xs,xb,xl,xc⟩ ra rc ⟨hx,Z,-⟩;dsimp only at hx Z ⊢;exact Ae 12 [0,0,1] (y<|y<|y<|λ_=>A5 (λw f d=>Ao C (Ab C A2 d.k1 C)) (λw f d=>⟨(⟨11,t.ln,t.co,t.tx,0,ra,xs.length,rc⟩,xb,xl,xc),f,C,(by show xb=(b0||!Cv (n+1+1) t (.cons h hk r));rw[AJ h1 h2 h3 h4 Y,h7,h8];unfold HE;rw[h9,Q,L,O,(E1 U)];exact hx),d.exm,d.res,tQ⟩));refine Aa 7 (λ_=>Ap 242 C C (λU=>?_) (λU=>?_));refine Aa 8 (λ_=>Ap 245 C C (λW=>?_) (λW=>?_));refine Ae 5 [2] (y<|λ_=>CI (XX:=λ_ _=>False) C C (eC AD C C) (λw f d=>(B6 w f d.vl J b0 l0 c0 d.res (d.mi J C).2.1 t _ _ _).retP) (λ_=>Bm.stab) (λ_=>trivial) (λ_ _ _ _ _ h=>h.elim) ?_);rintro⟨D,F⟩ -;exact Ae 7 [1] (y<|λ_=>A5 (λw f d=>Ao C (Ab C A2 d.k1 C)) (λw f d=>⟨(EM,true,D,F),f,C,(by show true=(b0||!Cv (n+1+1) t (.cons h hk r));exact CM (by rw[AJ h1 h2 h3 h4 Y,h7,h8];unfold HE;rw[h9,Q,L,O,U,(Dg W)];rfl)),d.exm,d.res,tQ⟩));refine Ae 12 [0] (y<|λ_=>N3 C C (eC Ec C C) (λw f d=>FT n (Cv (n+1)) (ih n C) w f d.vl J b0 l0 c0 d.res (d.mi J C).2.1 r _ _ K.2 oM d.f3) (λ_=>Bm.stab) ?_);rintro⟨xs,xb,xl,xc⟩ ra rc ⟨hx,Z,-⟩;dsimp only at hx Z ⊢;exact Ae 12 [0,0,1] (y<|y<|y<|λ_=>A5 (λw f d=>Ao C (Ab C A2 d.k1 C)) (λw f d=>⟨(⟨12,t.ln,t.co,t.tx,0,ra,xs.length,rc⟩,xb,xl,xc),f,C,(by show xb=(b0||!Cv (n+1+1) t (.cons h hk r));rw[AJ h1 h2 h3 h4 Y,h7,h8];unfold HE;rw[h9,Q,L,O,U,(Dg W)];exact hx),d.exm,d.res,tQ⟩));refine Aa 7 (λ_=>Ap 254 C C (λW=>?_) (λW=>?_));refine Aa 7 (λ_=>Ap 258 C C (λh15=>?_) (λh15=>?_))
     refine Ae 10 [2] (y<|λ_=>CI (XX:=λ_ _=>False) C C (eC AD C C) (λw f d=>(B6 w f d.vl J b0 l0 c0 d.res (d.mi J C).2.1 t _ _ _).retP) (λ_=>Bm.stab) (λ_=>trivial) (λ_ _ _ _ _ h=>h.elim) ?_);rintro⟨D,F⟩ -;exact Ae 7 [1] (y<|λ_=>A5 (λw f d=>Ao C (Ab C A2 d.k1 C)) (λw f d=>⟨(EM,true,D,F),f,C,(by show true=(b0||!Cv (n+1+1) t (.cons h hk r));exact CM (by rw[AJ h1 h2 h3 h4 Y,h7,h8];unfold HE;rw[h9,Q,L,O,U,W,(Dg h15)];rfl)),d.exm,d.res,tQ⟩));refine Aa 5 (λ_=>Ap 261 C C (λEg=>?_) (λEg=>?_));refine Ae 5 [2] (y<|λ_=>CI (XX:=λ_ _=>False) C C (eC AD C C) (λw f d=>(B6 w f d.vl J b0 l0 c0 d.res (d.mi J C).2.1 t _ _ _).retP) (λ_=>Bm.stab) (λ_=>trivial) (λ_ _ _ _ _ h=>h.elim) ?_);rintro⟨D,F⟩ -;exact Ae 7 [1] (y<|λ_=>A5 (λw f d=>Ao C (Ab C A2 d.k1 C)) (λw f d=>⟨(EM,true,D,F),f,C,(by show true=(b0||!Cv (n+1+1) t (.cons h hk r));exact CM (by rw[AJ h1 h2 h3 h4 Y,h7,h8];unfold HE;rw[h9,Q,L,O,U,W,(Dg h15),(Dt Eg)];rfl)),d.exm,d.res,tQ⟩));refine Ae 12 [0] (y<|λ_=>N3 C C (eC Ec C C) (λw f d=>FT n (Cv (n+1)) (ih n C) w f d.vl J b0 l0 c0 d.res (d.mi J C).2.1 r _ _ K.2 oM d.f3) (λ_=>Bm.stab) ?_);rintro⟨xs,xb,xl,xc⟩ ra rc ⟨hx,Z,-⟩;dsimp only at hx Z ⊢;exact Ae 12 [0,0,1] (y<|y<|y<|λ_=>A5 (λw f d=>Ao C (Ab C A2 d.k1 C)) (λw f d=>⟨(⟨13,t.ln,t.co,t.tx,0,ra,xs.length,rc⟩,xb,xl,xc),f,C,(by show xb=(b0||!Cv (n+1+1) t (.cons h hk r));rw[AJ h1 h2 h3 h4 Y,h7,h8];unfold HE;rw[h9,Q,L,O,U,W,(Dg h15),(Dt Eg)];exact hx),d.exm,d.res,tQ⟩));refine Aa 8 (λ_=>Ap 270 C C (λh15=>?_) (λh15=>?_));refine Aa 11 (λ_=>Ap 274 C C (λEg=>?_) (λEg=>?_));refine Ae 5 [2] (y<|λ_=>CI (XX:=λ_ _=>False) C C (eC AD C C) (λw f d=>(B6 w f d.vl J b0 l0 c0 d.res (d.mi J C).2.1 t _ _ _).retP) (λ_=>Bm.stab) (λ_=>trivial) (λ_ _ _ _ _ h=>h.elim) ?_);rintro⟨D,F⟩ -;exact Ae 7 [1] (y<|λ_=>A5 (λw f d=>Ao C (Ab C A2 d.k1 C)) (λw f d=>⟨(EM,true,D,F),f,C,(by show true=(b0||!Cv (n+1+1) t (.cons h hk r));exact CM (by rw[AJ h1 h2 h3 h4 Y,h7,h8];unfold HE;rw[h9,Q,L,O,U,W,h15,(Dg Eg)];rfl)),d.exm,d.res,tQ⟩));refine Aa 4 (λ_=>?_);obtain⟨e,ek,G,rfl⟩:=Fo.cases1 r (by have:=dF Eg;omega);have hszl:ek.sz+G.sz+1≤100000:=by have h99:hk.sz+(ek.sz+G.sz+1)+1≤100000:=hszk;omega
     have hkl3:G.len+1+1≤100000:=hkl2;refine Ae 12 [0] (y<|λ_=>Ap 280 C C (λEE=>?_) (λEE=>?_));exact absurd ((eq_of_beq h15).symm.trans (eq_of_beq EE)) dC;refine Aa 7 (λ_=>Kz (λw f d=>(d.f3).1) λhlc=>?_);have hlc2:G.len+1≤lc:=hlc;refine BN C C (λw f d=>IH (i:=1) C C C FW oM)<|BI (λw f=>Bq w f (.cons e ek .nil) la lc) (λw f d=>Bq.first d.f3) Bq.mono<|N3 C C (eC Ec C C) (λw f d=>FT n (Cv (n+1)) (ih n C) w f d.vl J b0 l0 c0 d.res (d.mi J C).2.1 (.cons e ek .nil) _ _ ⟨K.2.1,tQ⟩ (show ek.sz+0+1≤100000 by omega) d.f0) (λ_=>Bm.stab) ?_;rintro⟨xs,xb,xl,xc⟩ ra rc ⟨hx,Z,-⟩;dsimp only at hx Z ⊢;refine Ae 10 [0] (y<|λ_=>?_);refine DK (α:=Nat×Fo×Bool×Int×Int×List NR×oA×Nat) (λx=>x.2.1.len) (λx=>x.1+x.2.1.len=G.len+1∧(x.2.2.1||!x.2.1.allB (TQ (n+1) (Cv (n+1))))=(xb||!G.allB (TQ (n+1) (Cv (n+1))))∧x.2.1.sz≤G.sz∧x.2.1.all (DP n)∧x.2.2.2.2.2.1.length≤x.1) (λx=>(E7 0 (.pointer (some ⟨J,0,none⟩)) 3 (.pointer (some ⟨b1,0,none⟩)) 4 (.pointer (some ⟨b2,0,none⟩)) 5 (.pointer (some ⟨b3,0,none⟩)) 6 (.slice la (G.len+1) lc) 7 (.int .i64 ((G.len+1:Nat):Int)) 11 (.int .i64 (x.1:Int)))) (λx=>⟨λb=>b=J,λb=>b=J,Bm 92 J x.2.2.1 x.2.2.2.1 x.2.2.2.2.1,w,f⟩) (λx=>[⟨b3,GQ 14 t.ln t.co t.tx 0 x.2.2.2.2.2.2.1 x.2.2.2.2.2.1.length x.2.2.2.2.2.2.2,94,true⟩,⟨b2,GQ 0 0 0 [] 0 none 0 0,94,true⟩,⟨b1,LQ t (some ⟨eb,eo,none⟩) (G.len+1+1) kc,99,true⟩]) (λx=>[⟨94,6,x.2.2.2.2.2.2.1,x.2.2.2.2.2.2.2,x.2.2.2.2.2.1.length,x.2.2.2.2.2.1.flatMap JE⟩]) (λx=>[]) (λx=>[λw f=>Bt w f la x.1 x.2.1]) ((1,G,xb,xl,xc,xs,ra,rc)) ⟨Nat.add_comm _ _,C,Nat.le_refl _,K.2.2,Z⟩ lE (λw f d=>(d.more (B':=[]) (F':=[λw f=>Bt w f la 1 G]) nE (AR.mem ⟨Bq.next1 d.f4,tQ⟩) (Au.mem ⟨Bt.mono,tQ⟩)).less (sK (sK (sK sZ))) sR nE (mR [0])) ?_;rintro⟨i,r2,b2,l2,c2,ks,oa,oc⟩ ⟨hi,hb,hds,hr2,hkn⟩;dsimp only at hi hb hds hr2 hkn ⊢;refine Aa 7 (λ_=>Ap 290 C C (λh18=>?_) (λh18=>?_));refine Aa 3 (λ_=>BN C C (λw f d=>Ai C H8 d.res C)<|Aa 4 (λ_=>Ap 296 C C (λh19=>?_) (λh19=>?_)));replace h19:=B5 h19;refine Aa 5 (λ_=>?_);have hir:i≤G.len:=by have h99:decide ((i:Int)<((G.len+1:Nat):Int))=true:=h18;have:=dT h99;omega
     obtain⟨t2,k2,r2,rfl⟩:=Fo.cases1 r2 oM;have hi2:i+(r2.len+1)=G.len+1:=hi;obtain rfl:b2=false:=h19
     rotate_left
     replace h19:=B3 h19;refine Aa 3 (λ_=>Df<|Ae 10 [0,1] (y<|y<|λ_=>?_));obtain rfl:b2=true:=h19;exact A5 (λw f d=>Ao C (Ab C A2 d.k1 C)) (λw f d=>⟨(⟨14,t.ln,t.co,t.tx,0,oa,ks.length,oc⟩,true,l2,c2),f,C,(by show true=(b0||!Cv (n+1+1) t (.cons h hk (.cons e ek G)));rw[AJ h1 h2 h3 h4 Y,h7,h8];unfold HE;rw[h9,Q,L,O,U,W,h15,(Dg Eg)];exact KO hx (QG hb)),d.exm,d.res,tQ⟩);refine Aa 11 (λ_=>Df<|Ae 10 [0,1] (y<|y<|λ_=>?_));obtain rfl:r2=.nil:=Fo.len0 (by have h99:decide ((i:Int)<((G.len+1:Nat):Int))=false:=h18;have:=dF h99;omega);exact A5 (λw f d=>Ao C (Ab C A2 d.k1 C)) (λw f d=>⟨(⟨14,t.ln,t.co,t.tx,0,oa,ks.length,oc⟩,b2,l2,c2),f,C,(by show b2=(b0||!Cv (n+1+1) t (.cons h hk (.cons e ek G)));rw[AJ h1 h2 h3 h4 Y,h7,h8];unfold HE;rw[h9,Q,L,O,U,W,h15,(Dg Eg)];exact KO hx (Re hb)),d.exm,d.res,tQ⟩);refine Aa 6 (λ_=>Ap 270 C C (λEg=>?_) (λEg=>?_));refine Aa 8 (λ_=>Ap 274 C C (λEE=>?_) (λEE=>?_));refine Ae 5 [2] (y<|λ_=>CI (XX:=λ_ _=>False) C C (eC AD C C) (λw f d=>(B6 w f d.vl J b0 l0 c0 d.res (d.mi J C).2.1 t _ _ _).retP) (λ_=>Bm.stab) (λ_=>trivial) (λ_ _ _ _ _ h=>h.elim) ?_);rintro⟨D,F⟩ -;exact Ae 7 [1] (y<|λ_=>A5 (λw f d=>Ao C (Ab C A2 d.k1 C)) (λw f d=>⟨(EM,true,D,F),f,C,(by show true=(b0||!Cv (n+1+1) t (.cons h hk r));exact CM (by rw[AJ h1 h2 h3 h4 Y,h7,h8];unfold HE;rw[h9,Q,L,O,U,W,h15,Eg,(Dg EE)];rfl)),d.exm,d.res,tQ⟩));refine Aa 4 (λ_=>?_);obtain⟨e,ek,G,rfl⟩:=Fo.cases1 r (by have:=dF EE;omega);have hszl:ek.sz+G.sz+1≤100000:=by have h99:hk.sz+(ek.sz+G.sz+1)+1≤100000:=hszk;omega
     have hkl3:G.len+1+1≤100000:=hkl2;refine Ae 12 [0] (y<|λ_=>Ap 280 C C (λh18=>?_) (λh18=>?_));refine Ae 10 [0] (y<|λ_=>Kz (λw f d=>(d.f3).1) λhlc=>?_);have hlc2:G.len+1≤lc:=hlc;refine BN C C (λw f d=>IH (i:=1) C C C FW oM)<|BI (λw f=>Bq w f (.cons e ek .nil) la lc) (λw f d=>Bq.first d.f3) Bq.mono<|N3 C C (eC Ec C C) (λw f d=>FT n (Cv (n+1)) (ih n C) w f d.vl J b0 l0 c0 d.res (d.mi J C).2.1 (.cons e ek .nil) _ _ ⟨K.2.1,tQ⟩ (show ek.sz+0+1≤100000 by omega) d.f0) (λ_=>Bm.stab) ?_;rintro⟨xs,xb,xl,xc⟩ ra rc ⟨hx,Z,-⟩;dsimp only at hx Z ⊢;refine Ae 10 [0] (y<|λ_=>?_);refine DK (α:=Nat×Fo×Bool×Int×Int×List NR×oA×Nat) (λx=>x.2.1.len) (λx=>x.1+x.2.1.len=G.len+1∧(x.2.2.1||!x.2.1.allB (TQ (n+1) (Cv (n+1))))=(xb||!G.allB (TQ (n+1) (Cv (n+1))))∧x.2.1.sz≤G.sz∧x.2.1.all (DP n)∧x.2.2.2.2.2.1.length≤x.1) (λx=>(E7 0 (.pointer (some ⟨J,0,none⟩)) 3 (.pointer (some ⟨b1,0,none⟩)) 4 (.pointer (some ⟨b2,0,none⟩)) 5 (.pointer (some ⟨b3,0,none⟩)) 6 (.slice la (G.len+1) lc) 7 (.int .i64 ((G.len+1:Nat):Int)) 11 (.int .i64 (x.1:Int)))) (λx=>⟨λb=>b=J,λb=>b=J,Bm 92 J x.2.2.1 x.2.2.2.1 x.2.2.2.2.1,w,f⟩) (λx=>[⟨b3,GQ 15 t.ln t.co t.tx 0 x.2.2.2.2.2.2.1 x.2.2.2.2.2.1.length x.2.2.2.2.2.2.2,94,true⟩,⟨b2,GQ 0 0 0 [] 0 none 0 0,94,true⟩,⟨b1,LQ t (some ⟨eb,eo,none⟩) (G.len+1+1) kc,99,true⟩]) (λx=>[⟨94,6,x.2.2.2.2.2.2.1,x.2.2.2.2.2.2.2,x.2.2.2.2.2.1.length,x.2.2.2.2.2.1.flatMap JE⟩]) (λx=>[]) (λx=>[λw f=>Bt w f la x.1 x.2.1]) ((1,G,xb,xl,xc,xs,ra,rc)) ⟨Nat.add_comm _ _,C,Nat.le_refl _,K.2.2,Z⟩ lE (λw f d=>(d.more (B':=[]) (F':=[λw f=>Bt w f la 1 G]) nE (AR.mem ⟨Bq.next1 d.f4,tQ⟩) (Au.mem ⟨Bt.mono,tQ⟩)).less (sK (sK (sK sZ))) sR nE (mR [0])) ?_;rintro⟨i,r2,b2,l2,c2,ks,oa,oc⟩ ⟨hi,hb,hds,hr2,hkn⟩;dsimp only at hi hb hds hr2 hkn ⊢;refine Aa 7 (λ_=>Ap 290 C C (λh19=>?_) (λh19=>?_));refine Aa 3 (λ_=>BN C C (λw f d=>Ai C H8 d.res C)<|Aa 4 (λ_=>Ap 296 C C (λh20=>?_) (λh20=>?_)));replace h20:=B5 h20;refine Aa 5 (λ_=>?_);have hir:i≤G.len:=by have h99:decide ((i:Int)<((G.len+1:Nat):Int))=true:=h19;have:=dT h99;omega
     obtain⟨t2,k2,r2,rfl⟩:=Fo.cases1 r2 oM;have hi2:i+(r2.len+1)=G.len+1:=hi;obtain rfl:b2=false:=h20
     rotate_left
     replace h20:=B3 h20;refine Aa 3 (λ_=>Df<|Ae 10 [0,1] (y<|y<|λ_=>?_));obtain rfl:b2=true:=h20;exact A5 (λw f d=>Ao C (Ab C A2 d.k1 C)) (λw f d=>⟨(⟨15,t.ln,t.co,t.tx,0,oa,ks.length,oc⟩,true,l2,c2),f,C,(by show true=(b0||!Cv (n+1+1) t (.cons h hk (.cons e ek G)));rw[AJ h1 h2 h3 h4 Y,h7,h8];unfold HE;rw[h9,Q,L,O,U,W,h15,Eg,(Dg EE)];exact KO hx (QG hb)),d.exm,d.res,tQ⟩);refine Aa 11 (λ_=>Df<|Ae 10 [0,1] (y<|y<|λ_=>?_));obtain rfl:r2=.nil:=Fo.len0 (by have h99:decide ((i:Int)<((G.len+1:Nat):Int))=false:=h19;have:=dF h99;omega);exact A5 (λw f d=>Ao C (Ab C A2 d.k1 C)) (λw f d=>⟨(⟨15,t.ln,t.co,t.tx,0,oa,ks.length,oc⟩,b2,l2,c2),f,C,(by show b2=(b0||!Cv (n+1+1) t (.cons h hk (.cons e ek G)));rw[AJ h1 h2 h3 h4 Y,h7,h8];unfold HE;rw[h9,Q,L,O,U,W,h15,Eg,(Dg EE)];exact KO hx (Re hb)),d.exm,d.res,tQ⟩);exact absurd (Eg.symm.trans h18) dC;refine Aa 8 (λ_=>Ap 310 C C (λEE=>?_) (λEE=>?_));refine Aa 11 (λ_=>Ap 314 C C (λh18=>?_) (λh18=>?_));refine Ae 5 [2] (y<|λ_=>CI (XX:=λ_ _=>False) C C (eC AD C C) (λw f d=>(B6 w f d.vl J b0 l0 c0 d.res (d.mi J C).2.1 t _ _ _).retP) (λ_=>Bm.stab) (λ_=>trivial) (λ_ _ _ _ _ h=>h.elim) ?_);rintro⟨D,F⟩ -;exact Ae 7 [1] (y<|λ_=>A5 (λw f d=>Ao C (Ab C A2 d.k1 C)) (λw f d=>⟨(EM,true,D,F),f,C,(by show true=(b0||!Cv (n+1+1) t (.cons h hk r));exact CM (by rw[AJ h1 h2 h3 h4 Y,h7,h8];unfold HE;rw[h9,Q,L,O,U,W,h15,Eg,EE,(E1 h18)];rfl)),d.exm,d.res,tQ⟩));refine Ae 16 [0] (y<|λ_=>Ap 320 C C (λh19=>?_) (λh19=>?_));exact absurd ((eq_of_beq EE).symm.trans (eq_of_beq h19)) dC;refine Aa 6 (λ_=>N3 C C (eC Ec C C) (λw f d=>FT n (Cv (n+1)) (ih n C) w f d.vl J b0 l0 c0 d.res (d.mi J C).2.1 r _ _ K.2 oM d.f3) (λ_=>Bm.stab) ?_);rintro⟨xs,xb,xl,xc⟩ ra rc ⟨hx,Z,-⟩;dsimp only at hx Z ⊢;exact Ae 12 [0,0,1] (y<|y<|y<|λ_=>A5 (λw f d=>Ao C (Ab C A2 d.k1 C)) (λw f d=>⟨(⟨16,t.ln,t.co,t.tx,0,ra,xs.length,rc⟩,xb,xl,xc),f,C,(by show xb=(b0||!Cv (n+1+1) t (.cons h hk r));rw[AJ h1 h2 h3 h4 Y,h7,h8];unfold HE;rw[h9,Q,L,O,U,W,h15,Eg,EE,(E1 h18)];exact hx),d.exm,d.res,tQ⟩));refine Aa 6 (λ_=>Ap 310 C C (λh18=>?_) (λh18=>?_));refine Aa 8 (λ_=>Ap 314 C C (λh19=>?_) (λh19=>?_));refine Ae 5 [2] (y<|λ_=>CI (XX:=λ_ _=>False) C C (eC AD C C) (λw f d=>(B6 w f d.vl J b0 l0 c0 d.res (d.mi J C).2.1 t _ _ _).retP) (λ_=>Bm.stab) (λ_=>trivial) (λ_ _ _ _ _ h=>h.elim) ?_);rintro⟨D,F⟩ -;exact Ae 7 [1] (y<|λ_=>A5 (λw f d=>Ao C (Ab C A2 d.k1 C)) (λw f d=>⟨(EM,true,D,F),f,C,(by show true=(b0||!Cv (n+1+1) t (.cons h hk r));exact CM (by rw[AJ h1 h2 h3 h4 Y,h7,h8];unfold HE;rw[h9,Q,L,O,U,W,h15,Eg,EE,h18,(E1 h19)];rfl)),d.exm,d.res,tQ⟩));refine Ae 16 [0] (y<|λ_=>Ap 320 C C (λh20=>?_) (λh20=>?_))
     refine Ae 9 [0] (y<|λ_=>N3 C C (eC Ec C C) (λw f d=>FT n (Cv (n+1)) (ih n C) w f d.vl J b0 l0 c0 d.res (d.mi J C).2.1 r _ _ K.2 oM d.f3) (λ_=>Bm.stab) ?_);rintro⟨xs,xb,xl,xc⟩ ra rc ⟨hx,Z,-⟩;dsimp only at hx Z ⊢;exact Ae 12 [0,0,1] (y<|y<|y<|λ_=>A5 (λw f d=>Ao C (Ab C A2 d.k1 C)) (λw f d=>⟨(⟨17,t.ln,t.co,t.tx,0,ra,xs.length,rc⟩,xb,xl,xc),f,C,(by show xb=(b0||!Cv (n+1+1) t (.cons h hk r));rw[AJ h1 h2 h3 h4 Y,h7,h8];unfold HE;rw[h9,Q,L,O,U,W,h15,Eg,EE,h18,(E1 h19)];exact hx),d.exm,d.res,tQ⟩));exact absurd (h18.symm.trans h20) dC;refine Ae 5 [2] (y<|λ_=>CI (XX:=λ_ _=>False) C C (eC AD C C) (λw f d=>(B6 w f d.vl J b0 l0 c0 d.res (d.mi J C).2.1 t _ _ _).retP) (λ_=>Bm.stab) (λ_=>trivial) (λ_ _ _ _ _ h=>h.elim) ?_);rintro⟨D,F⟩ -;exact Ae 6 [1] (y<|λ_=>A5 (λw f d=>Ao C (Ab C A2 d.k1 C)) (λw f d=>⟨(EM,true,D,F),f,C,(by show true=(b0||!Cv (n+1+1) t (.cons h hk r));exact CM (by rw[AJ h1 h2 h3 h4 Y,h7,h8];unfold HE;rw[h9,Q,L,O,U,W,h15,Eg,EE,h18];rfl)),d.exm,d.res,tQ⟩))
     all_goals
       refine Hr 0 C ?_;rintro⟨eb,eo,ka,kc⟩ rfl;have hr3:k2.sz+r2.sz+1≤G.sz:=hds;refine Cq [1,2] Aj (rd [0,2,3,4,5,6] (.br 1 (.br 7 (.br 8 (.br 9 (.rd 10 (.br 11 .fin .fin)) .fin) .fin) .fin) (.br 7 (.br 1 (.br 8 (.br 9 (.rd 10 (.br 11 .fin .fin)) .fin) .fin) (.br 8 (.br 1 (.br 9 (.rd 10 (.br 11 .fin .fin)) .fin) .fin) .fin)) .fin))) C kR<|By 6 [100,0] (And.intro (by first|omega|(simp only[Fo.len];omega))<|y2<|λ_=>Cl C ?_ ?_);refine Ae 2 [0] (y<|λ_=>Ar [1,2] C<|Ak C<|CI (XX:=λ_ _=>False) C C (eC VP C C) (λw f d=>(tarm n (Cv (n+1)) (ih n C) w f d.vl J false l2 c2 d.res (d.mi J C).2.1 t2 k2 _ _ hr2.1 oM d.f0).retP) (λ_=>Bm.stab) (λ_=>trivial) (λ_ _ _ _ _ h=>h.elim) ?_);rintro⟨x1,x1b,x1l,x1c⟩ hx1;dsimp only at hx1 ⊢;refine Aa 1 (λ_=>Ar [1,2] C<|Ak C<|Aa 2 (λb4=>λ_=>?_))
       rotate_left
       refine Ak C<|CI (XX:=λ_ _=>False) C C (eC VP C C) (λw f d=>(tarm n (Cv (n+1)) (ih n C) w f d.vl J false l2 c2 d.res (d.mi J C).2.1 t2 k2 _ _ hr2.1 oM d.f0).retP) (λ_=>Bm.stab) (λ_=>trivial) (λ_ _ _ _ _ h=>h.elim) ?_;rintro⟨x1,x1b,x1l,x1c⟩ hx1;dsimp only at hx1 ⊢;refine Aa 1 (λ_=>Ar [1,2] C<|Cl C ?_ ?_);refine Ae 2 [0] (y<|λ_=>Ar [1,2] C<|Ak C<|Aa 2 (λb4=>λ_=>?_))
       rotate_left
       refine Ak C<|Aa 2 (λb4=>λ_=>Ar [2,3] C<|Ak C<|Ae 2 [1] (y<|λ_=>?_))
   all_goals
     refine Ar [2,3] C<|Ak C<|Dd 0 0 C C IM C C C C C C C C (λ_ _=>C) (by first|omega|(show (pk.len+1)*72≤_;have:=K.2.1.2.2.1;omega)) (by first|omega|(show pk.len+1≤_;have:=K.2.1.2.2.1;omega)) λoa2 oc2=>Aa 1 (λ_=>Ar [2,3] C<|Bf 1 (λ_=>Ak C<|Ae 2 [1] (y<|λ_=>Ar [2,3] C<|BG ?_)));exact Aa 7 (And.intro ⟨oM,oM⟩<|λ_=>Ce ((i+1,r2,x1b,x1l,x1c,ks++[x1],oa2,oc2)) (show r2.len<r2.len+1 from Nat.lt_succ_self _) ⟨show i+1+r2.len=G.len+1 by omega,Pa hb hx1,show r2.sz≤G.sz by omega,hr2.2,(by show (ks++[x1]).length≤i+1;simp;omega)⟩ lE (λw f d=>⟨_,(by have e:(ks++[x1]).length=ks.length+1:=(by simp);dsimp only;rw[e,BR];exact d.less (sD (sK (sK (sK sZ)))) sR nE (mR [1]))⟩))

theorem Xw:∀n,wQ 97 n (Cv (n+1))
 |0=>Pj 0 (λ_ d=>by cases d)
 |n+1=>Pj (n+1) (λn' h=>by cases h;exact Xw n)
theorem Pw(n:Nat)(ih:∀n',n=n'+1→wQ 95 n' (C2 (n'+1)))(w:wO)(f:Fq)(hv:Vl w f)(G:Nat)(b0:Bool)(Y c0:Int)(hX:Bm 92 G b0 Y c0 w f)(hf:f G=0)(t:Aq)(k:Fo)(ka:oA)(kc:Nat)(hp:DP n t k)(hsz:k.sz≤100000)(hL:Bq w f k ka kc) :
   AX prog 95 #[.pointer (some ⟨G,0,none⟩),fV t ka k.len kc] w (kY 92 G b0 (C2 (n+1) t k) w f):=by
 refine Gb (X:=⟨λb=>b=G,λb=>b=G,Bm 92 G b0 Y c0,w,f⟩) (H:=[]) (R:=[]) (B:=[]) (Fs:=[λw f=>Bq w f k ka kc]) (f:=f) func95 C C C (JF (M:=λb=>b=G) (I:=Bm 92 G b0 Y c0) hv hX Bm.stab (λb hb=>by cases hb;exact⟨AS.lt hX,hf⟩) ⟨hL,tQ⟩ ⟨Bq.mono,tQ⟩)<|Ae 23 [1,1,0,2] (λb1=>λb2=>y<|y<|λb3=>y<|y<|λ_=>BO C C (eC HQ C C) (λw f d=>Lf w f d.vl t _ _ _)<|Aa 3 (λ_=>?_))
 · refine Ap 20 C C (λJ=>?_) (λJ=>?_)
   replace J:=B5 J;refine Ae 5 [2] (y<|λ_=>BO C C (eC dK C C) (λw f d=>pH w f d.vl t _ _ _ hp.1.1)<|Aa 2 (λ_=>Ap 22 C C (λK=>?_) (λK=>?_)));exact Ae 16 [0,0,1] (y<|y<|y<|λ_=>A5 (λw f d=>Ao C (Ab C A2 d.k1 C)) (λw f d=>⟨(⟨31,t.ln,t.co,t.tx,0,none,0,0⟩,b0,Y,c0),f,C,(by show b0=(b0||!C2 (n+1) t k);exact H9 (by rw[Js J,K];rfl)),d.exm,d.res,tQ⟩));refine Ae 7 [2] (y<|λ_=>BO C C (eC Vg C C) (λw f d=>Vm w f d.vl t _ _ _ hp.1.1)<|Aa 3 (λ_=>Ap 27 C C (λL=>?_) (λL=>?_)));replace L:=B5 L;refine Ae 5 [2] (y<|λ_=>CI (XX:=λ_ _=>False) C C (eC AD C C) (λw f d=>(B6 w f d.vl G b0 Y c0 d.res (d.mi G C).2.1 t _ _ _).retP) (λ_=>Bm.stab) (λ_=>trivial) (λ_ _ _ _ _ h=>h.elim) ?_);rintro⟨D,F⟩ -;exact Ae 6 [1] (y<|λ_=>A5 (λw f d=>Ao C (Ab C A2 d.k1 C)) (λw f d=>⟨(EM,true,D,F),f,C,(by show true=(b0||!C2 (n+1) t k);exact CM (by rw[Js J,K,L];rfl)),d.exm,d.res,tQ⟩));replace L:=B3 L;exact Ae 11 [0,1] (y<|y<|λ_=>A5 (λw f d=>Ao C (Ab C A2 d.k1 C)) (λw f d=>⟨(⟨32,t.ln,t.co,t.tx,0,none,0,0⟩,b0,Y,c0),f,C,(by show b0=(b0||!C2 (n+1) t k);exact H9 (by rw[Js J,K,L];rfl)),d.exm,d.res,tQ⟩));replace J:=B3 J;refine Aa 4 (λ_=>?_);rcases Fo.nc k with rfl|⟨h,Q,r,rfl⟩
   refine Ae 4 [2] (y<|λ_=>BN C C (λw f d=>Ck (-1:Int) C C ((CL (n:=((0:Nat):Int)-1) ⟨oM,oM⟩).trans oM))<|Ae 6 [2] (y<|λ_=>BO C C (eC HP C C) (λw f d=>KQ w f d.vl t .nil _ _ d.f0)<|Aa 21 (λ_=>Ap 52 C C (λK=>?_) (λK=>?_))));refine Ae 16 [2] (y<|λ_=>CI (XX:=λ_ _=>False) C C (eC AD C C) (λw f d=>(B6 w f d.vl G b0 Y c0 d.res (d.mi G C).2.1 t _ _ _).retP) (λ_=>Bm.stab) (λ_=>trivial) (λ_ _ _ _ _ h=>h.elim) ?_);rintro⟨D,F⟩ -;exact Ae 5 [1] (y<|λ_=>A5 (λw f d=>Ao C (Ab C A2 d.k1 C)) (λw f d=>⟨(EM,true,D,F),f,C,(by show true=(b0||!C2 (n+1) t .nil);exact CM (S2 J)),d.exm,d.res,tQ⟩));exact Bool.noConfusion ((show (DB t Fo.nil==[])=true from C).symm.trans K);have hp0:=hp;obtain⟨hto,hko,hkl,hdp⟩:=hp;have hkl2:r.len+1≤100000:=hkl;have hszk:Q.sz+r.sz+1≤100000:=hsz;obtain⟨n,rfl⟩:∃q,n=q+1:=by cases n with|zero=>exact absurd hdp (by simp[Fo.deep])|succ q=>exact⟨q,C⟩
   simp only[Fo.deep,Bool.and_eq_true] at hdp;have U:=Ol hp0;refine cW 0 C<|JN 1 C<|Hr 0 C ?_;rintro⟨eb,eo,hka,hkc⟩ rfl;refine Ae 4 [2] (y<|λ_=>BN C C (λw f d=>Ck (r.len:Int) C C ((CL (n:=((r.len+1:Nat):Int)-1) ⟨oM,oM⟩).trans oM))<|Ae 6 [2] (y<|λ_=>BO C C (eC HP C C) (λw f d=>KQ w f d.vl t (.cons h Q r) _ _ d.f4)<|Aa 21 (λ_=>Ap 52 C C (λK=>?_) (λK=>?_))));refine Ae 16 [2] (y<|λ_=>CI (XX:=λ_ _=>False) C C (eC AD C C) (λw f d=>(B6 w f d.vl G b0 Y c0 d.res (d.mi G C).2.1 t _ _ _).retP) (λ_=>Bm.stab) (λ_=>trivial) (λ_ _ _ _ _ h=>h.elim) ?_);rintro⟨D,F⟩ -;exact Ae 5 [1] (y<|λ_=>A5 (λw f d=>Ao C (Ab C A2 d.k1 C)) (λw f d=>⟨(EM,true,D,F),f,C,(by show true=(b0||!C2 (n+1+1) t (.cons h Q r));exact CM (by rw[CD J,K];rfl)),d.exm,d.res,tQ⟩));refine Aa 7 (λ_=>Ap 54 C C (λL=>?_) (λL=>?_));refine Aa 15 (λ_=>Ap 72 C C (λW=>?_) (λW=>?_));replace W:=B5 W;refine Ae 5 [2] (y<|λ_=>CI (XX:=λ_ _=>False) C C (eC AD C C) (λw f d=>(B6 w f d.vl G b0 Y c0 d.res (d.mi G C).2.1 t _ _ _).retP) (λ_=>Bm.stab) (λ_=>trivial) (λ_ _ _ _ _ h=>h.elim) ?_);rintro⟨D,F⟩ -;exact Ae 5 [1] (y<|λ_=>A5 (λw f d=>Ao C (Ab C A2 d.k1 C)) (λw f d=>⟨(EM,true,D,F),f,C,(by show true=(b0||!C2 (n+1+1) t (.cons h Q r));exact CM (by rw[CD J,K,L,W];rfl)),d.exm,d.res,tQ⟩));replace W:=B3 W;refine Ae 15 [0,2] (y<|y<|λ_=>BN C C (λw f d=>Cd (m:=r.len) C C C FW)<|N3 C C (eC Kw C C) (λw f d=>Ku n (C2 (n+1)) (ih n C) w f d.vl G b0 Y c0 d.res (d.mi G C).2.1 r _ _ U.2 oM d.f3) (λ_=>Bm.stab) ?_);rintro⟨xs,xb,xl,xc⟩ ra rc ⟨hx,hxl,hx2⟩;dsimp only at hx hxl hx2 ⊢;refine Ae 10 [0] (y<|λ_=>Ap 86 C C (λh5=>?_) (λh5=>?_));refine Aa 3 (λ_=>BN C C (λw f d=>Ai C H8 d.res C)<|Aa 4 (λ_=>Ap 92 C C (λO=>?_) (λO=>?_)));replace O:=B5 O;refine Aa 2 (λ_=>?_);obtain rfl:xb=false:=O;have hxe:=hx2 C;have h2l:2≤r.len:=by have:=dT W;omega
   refine Xg (λw f=>Dc JE w f xs ra rc) Dc.mono (λw f d=>Hn d) ?_;obtain⟨x0,hx0⟩:∃v,xs[r.len-1]?=some v:=⟨_,List.getElem?_eq_getElem oM⟩;refine Hh (α:=Nat×Nat) (λx=>ra=some ⟨x.1,x.2,none⟩) (λx=>[⟨x.1,x.2+(r.len-1)*6,JE x0⟩]) (λx=>[]) (λw f d=>let ⟨b,off,J,K⟩:=Dc.get (i:=r.len-1) 6 (λ_=>C) d.f0 hx0;⟨(b,off),J,(oE K),λ_ h=>by cases h⟩) (λx=>Au.mem tQ) ?_;rintro⟨rb1,rq1⟩ rfl;refine Ae 4 [0] (y<|λ_=>BN C C (λw f d=>Ck ((r.len-1:Nat):Int) C C ((CL (n:=(r.len:Int)-1) ⟨oM,oM⟩).trans oM))<|Ae 15 [100,0,0] (And.intro (by first|omega|(simp only[Fo.len];omega))<|y2<|λb4=>y<|And.intro ⟨oM,oM⟩<|λ_=>?_));refine DK (α:=Int×NR) (λx=>(x.1+1).toNat) (λx => -1≤x.1∧x.1<r.len) (λx=>(E7 0 (.pointer (some ⟨G,0,none⟩)) 3 (.pointer (some ⟨b1,0,none⟩)) 4 (.pointer (some ⟨b2,0,none⟩)) 5 (.pointer (some ⟨b3,0,none⟩)) 7 (S (DB t (.cons h Q r))) 9 (.pointer (some ⟨b4,0,none⟩)) 10 (.int .i64 x.1))) (λx=>⟨λb=>b=G,λb=>b=G,Bm 92 G false xl xc,w,f⟩) (λx=>[⟨b4,JE x.2,94,true⟩,⟨b3,GQ 32 t.ln t.co (DB t (.cons h Q r)) 0 (some ⟨rb1,rq1,none⟩) xs.length rc,94,true⟩,⟨b2,GQ 0 0 0 [] 0 none 0 0,94,true⟩,⟨b1,LQ t (some ⟨eb,eo,none⟩) (r.len+1) kc,99,true⟩]) (λx=>[]) (λx=>[]) (λx=>[λw f=>Dc JE w f xs (some ⟨rb1,rq1,none⟩) rc]) (((r.len:Int)-2,x0)) ⟨by show -1≤(r.len:Int)-2;omega,by show (r.len:Int)-2<r.len;omega⟩ lE (λw f d=>d.less (sK (sK (sK (sK sZ)))) sR nE (mR [0])) ?_;rintro⟨z,ot⟩ ⟨hz1,hz2⟩;dsimp only at hz1 hz2 ⊢;refine Aa 7 (λ_=>Ap 102 C C (λZ=>?_) (λZ=>?_));refine Aa 5 (λ_=>?_);obtain⟨p,rfl⟩:∃p:Nat,z=(p:Int):=⟨z.toNat,by have:=dT Z;omega⟩;obtain⟨x1,hx1⟩:∃v,xs[p]?=some v:=⟨_,List.getElem?_eq_getElem oM⟩;refine Hh (α:=Nat×Nat) (λx=>(some (⟨rb1,rq1,none⟩:Addr))=some ⟨x.1,x.2,none⟩) (λx=>[⟨x.1,x.2+(p)*6,JE x1⟩]) (λx=>[]) (λw f d=>let ⟨b,off,J,K⟩:=Dc.get (i:=p) 6 (λ_=>C) d.f0 hx1;⟨(b,off),J,(oE K),λ_ h=>by cases h⟩) (λx=>Au.mem tQ) ?_;rintro⟨rb2,rq2⟩ h44;obtain⟨rfl,rfl⟩:rb1=rb2∧rq1=rq2:=by cases h44;exact⟨C,C⟩
   refine Cq [1,2,3] Aj (rd [0,1,2,3,4,5,6,7,8] (.br 9 (.br 10 (.rd 11 (.br 12 .fin .fin)) .fin) .fin)) C kR<|By 9 [2,0,100,0] (y<|y<|And.intro (by first|omega|(simp only[Fo.len];omega))<|y2<|λ_=>Ak C<|Ae 2 [0] (y<|λ_=>Ar [1,2,3] C<|Ak C<|Aa 2 (λb5=>λ_=>Ar [2,3,4] C<|Bf 1 (λ_=>Ak C ?_))));exact Ae 2 [1] (y<|λ_=>Ar [2,3,4] C<|BG<|Aa 7 (And.intro ⟨oM,oM⟩<|λ_=>Ce (((p:Int)-1,⟨32,t.ln,t.co,(DB t (.cons h Q r)),0,some ⟨b5,0,none⟩,2,2⟩)) (show ((p:Int)-1+1).toNat<((p:Int)+1).toNat by omega) ⟨show -1≤(p:Int)-1 by omega,show (p:Int)-1<r.len by omega⟩ lE (λw f d=>⟨_,d.less (sD (sK (sK (sK (sK sZ))))) sR nE (mR [0])⟩)));exact Aa 3 (λ_=>Df<|Ae 10 [0,2] (y<|y<|λ_=>A5 (λw f d=>Ao C (Ab C A2 d.k2 C)) (λw f d=>⟨(ot,false,xl,xc),f,C,(by show false=(b0||!C2 (n+1+1) t (.cons h Q r));rw[CD J,K,L,W];exact hx),d.exm,d.res,tQ⟩)));replace O:=B3 O;refine Ae 10 [0,1] (y<|y<|λ_=>?_);obtain rfl:xb=true:=O;exact A5 (λw f d=>Ao C (Ab C A2 d.k1 C)) (λw f d=>⟨(⟨32,t.ln,t.co,(DB t (.cons h Q r)),0,ra,xs.length,rc⟩,true,xl,xc),f,C,(by show true=(b0||!C2 (n+1+1) t (.cons h Q r));rw[CD J,K,L,W];exact hx),d.exm,d.res,tQ⟩);exact absurd (L.symm.trans h5) dC;refine Aa 7 (λ_=>Ap 58 C C (λW=>?_) (λW=>?_));refine Aa 5 (λ_=>Ap 62 C C (λh5=>?_) (λh5=>?_));refine Aa 14 (λ_=>?_)
   rotate_left
   refine Ae 19 [2] (y<|λ_=>CI (XX:=λ_ _=>False) C C (eC AD C C) (λw f d=>(B6 w f d.vl G b0 Y c0 d.res (d.mi G C).2.1 t _ _ _).retP) (λ_=>Bm.stab) (λ_=>trivial) (λ_ _ _ _ _ h=>h.elim) ?_);rintro⟨D,F⟩ -;exact Ae 5 [1] (y<|λ_=>A5 (λw f d=>Ao C (Ab C A2 d.k1 C)) (λw f d=>⟨(EM,true,D,F),f,C,(by show true=(b0||!C2 (n+1+1) t (.cons h Q r));exact CM (by rw[CD J,K,L,W,h5];rfl)),d.exm,d.res,tQ⟩));refine Aa 8 (λ_=>Ap 66 C C (λh5=>?_) (λh5=>?_));refine Aa 18 (λ_=>?_)
   rotate_left
   refine Aa 6 (λ_=>?_)
   · refine Ap 66 C C (λO=>?_) (λO=>?_)
     refine Aa 15 (λ_=>Ap 72 C C (λZ=>?_) (λZ=>?_));replace Z:=B5 Z;refine Ae 5 [2] (y<|λ_=>?_)
     rotate_left
     replace Z:=B3 Z;refine Ae 15 [0,2] (y<|y<|λ_=>BN C C (λw f d=>Cd (m:=r.len) C C C FW)<|N3 C C (eC Kw C C) (λw f d=>Ku n (C2 (n+1)) (ih n C) w f d.vl G b0 Y c0 d.res (d.mi G C).2.1 r _ _ U.2 oM d.f3) (λ_=>Bm.stab) ?_);rintro⟨xs,xb,xl,xc⟩ ra rc ⟨hx,hxl,hx2⟩;dsimp only at hx hxl hx2 ⊢;refine Ae 10 [0] (y<|λ_=>Ap 86 C C (λh8=>?_) (λh8=>?_));exact absurd (L.symm.trans h8) dC;exact Ae 18 [0,1] (y<|y<|λ_=>A5 (λw f d=>Ao C (Ab C A2 d.k1 C)) (λw f d=>⟨(⟨32,t.ln,t.co,(DB t (.cons h Q r)),0,ra,xs.length,rc⟩,xb,xl,xc),f,C,(by show xb=(b0||!C2 (n+1+1) t (.cons h Q r));rw[CD J,K,L,W,h5,O,Z];exact hx),d.exm,d.res,tQ⟩));refine Ae 6 [2,100,0] (y<|And.intro (by first|omega|(simp only[Fo.len];omega))<|y2<|λ_=>BO C C (eC Vg C C) (λw f d=>Vm w f d.vl h _ _ _ hko.1.1)<|Aa 1 (λ_=>Ap 44 C C (λZ=>?_) (λZ=>?_)));refine Aa 4 (λ_=>Ap 48 C C (λh8=>?_) (λh8=>?_));refine Aa 14 (λ_=>Ap 72 C C (λh9=>?_) (λh9=>?_));replace h9:=B5 h9;refine Ae 5 [2] (y<|λ_=>CI (XX:=λ_ _=>False) C C (eC AD C C) (λw f d=>(B6 w f d.vl G b0 Y c0 d.res (d.mi G C).2.1 t _ _ _).retP) (λ_=>Bm.stab) (λ_=>trivial) (λ_ _ _ _ _ h=>h.elim) ?_);rintro⟨D,F⟩ -;exact Ae 5 [1] (y<|λ_=>A5 (λw f d=>Ao C (Ab C A2 d.k1 C)) (λw f d=>⟨(EM,true,D,F),f,C,(by show true=(b0||!C2 (n+1+1) t (.cons h Q r));exact CM (by rw[CD J,K,L,W,h5,O,Z,h8,h9];rfl)),d.exm,d.res,tQ⟩));replace h9:=B3 h9;refine Ae 15 [0,2] (y<|y<|λ_=>BN C C (λw f d=>Cd (m:=r.len) C C C FW)<|N3 C C (eC Kw C C) (λw f d=>Ku n (C2 (n+1)) (ih n C) w f d.vl G b0 Y c0 d.res (d.mi G C).2.1 r _ _ U.2 oM d.f3) (λ_=>Bm.stab) ?_);rintro⟨xs,xb,xl,xc⟩ ra rc ⟨hx,hxl,hx2⟩;dsimp only at hx hxl hx2 ⊢;refine Ae 10 [0] (y<|λ_=>Ap 86 C C (λh10=>?_) (λh10=>?_));exact absurd (L.symm.trans h10) dC;exact Ae 18 [0,1] (y<|y<|λ_=>A5 (λw f d=>Ao C (Ab C A2 d.k1 C)) (λw f d=>⟨(⟨32,t.ln,t.co,(DB t (.cons h Q r)),0,ra,xs.length,rc⟩,xb,xl,xc),f,C,(by show xb=(b0||!C2 (n+1+1) t (.cons h Q r));rw[CD J,K,L,W,h5,O,Z,h8,h9];exact hx),d.exm,d.res,tQ⟩));refine Ae 19 [2] (y<|λ_=>CI (XX:=λ_ _=>False) C C (eC AD C C) (λw f d=>(B6 w f d.vl G b0 Y c0 d.res (d.mi G C).2.1 t _ _ _).retP) (λ_=>Bm.stab) (λ_=>trivial) (λ_ _ _ _ _ h=>h.elim) ?_);rintro⟨D,F⟩ -;exact Ae 5 [1] (y<|λ_=>A5 (λw f d=>Ao C (Ab C A2 d.k1 C)) (λw f d=>⟨(EM,true,D,F),f,C,(by show true=(b0||!C2 (n+1+1) t (.cons h Q r));exact CM (by rw[CD J,K,L,W,h5,O,Z,h8];rfl)),d.exm,d.res,tQ⟩));refine Ae 23 [2] (y<|λ_=>?_)
     all_goals
       refine CI (XX:=λ_ _=>False) C C (eC AD C C) (λw f d=>(B6 w f d.vl G b0 Y c0 d.res (d.mi G C).2.1 t _ _ _).retP) (λ_=>Bm.stab) (λ_=>trivial) (λ_ _ _ _ _ h=>h.elim) ?_;rintro⟨D,F⟩ -;exact Ae 5 [1] (y<|λ_=>A5 (λw f d=>Ao C (Ab C A2 d.k1 C)) (λw f d=>⟨(EM,true,D,F),f,C,(by show true=(b0||!C2 (n+1+1) t (.cons h Q r));exact CM (by rw[CD J,K,L,W,h5,O,Z];rfl)),d.exm,d.res,tQ⟩))
   all_goals
     refine Ap 72 C C (λO=>?_) (λO=>?_);replace O:=B5 O;refine Ae 5 [2] (y<|λ_=>CI (XX:=λ_ _=>False) C C (eC AD C C) (λw f d=>(B6 w f d.vl G b0 Y c0 d.res (d.mi G C).2.1 t _ _ _).retP) (λ_=>Bm.stab) (λ_=>trivial) (λ_ _ _ _ _ h=>h.elim) ?_);rintro⟨D,F⟩ -;exact Ae 5 [1] (y<|λ_=>A5 (λw f d=>Ao C (Ab C A2 d.k1 C)) (λw f d=>⟨(EM,true,D,F),f,C,(by show true=(b0||!C2 (n+1+1) t (.cons h Q r));exact CM (by rw[CD J,K,L,W,h5,O];rfl)),d.exm,d.res,tQ⟩));replace O:=B3 O;refine Ae 15 [0,2] (y<|y<|λ_=>BN C C (λw f d=>Cd (m:=r.len) C C C FW)<|N3 C C (eC Kw C C) (λw f d=>Ku n (C2 (n+1)) (ih n C) w f d.vl G b0 Y c0 d.res (d.mi G C).2.1 r _ _ U.2 oM d.f3) (λ_=>Bm.stab) ?_);rintro⟨xs,xb,xl,xc⟩ ra rc ⟨hx,hxl,hx2⟩;dsimp only at hx hxl hx2 ⊢;refine Ae 10 [0] (y<|λ_=>Ap 86 C C (λZ=>?_) (λZ=>?_));exact absurd (L.symm.trans Z) dC;exact Ae 18 [0,1] (y<|y<|λ_=>A5 (λw f d=>Ao C (Ab C A2 d.k1 C)) (λw f d=>⟨(⟨32,t.ln,t.co,(DB t (.cons h Q r)),0,ra,xs.length,rc⟩,xb,xl,xc),f,C,(by show xb=(b0||!C2 (n+1+1) t (.cons h Q r));rw[CD J,K,L,W,h5,O];exact hx),d.exm,d.res,tQ⟩))

theorem kN:∀n,wQ 95 n (C2 (n+1))
 |0=>Pw 0 (λ_ d=>by cases d)
 |n+1=>Pw (n+1) (λn' h=>by cases h;exact kN n)
end Go.Proofs.YtnojaendcldjpaaGreatDoor
namespace Go.SW
open Go.RowKit
section
variable{P:Program}{σ:Ba}{w:wO}{ty T:tI}{x:Operand}{k:Nat}
variable {i j:Nat}{hi lo:Operand}{e:tI}
theorem dB{k1 k2:IntKind}{a:oA}{len cap:Nat}(J:ev σ x=some (.slice a len cap))(D:ev σ lo=some (.int k1 (i:Int)))(F:ev σ hi=some (.int k2 (j:Int)))
   (K:Hj P T=some (e,k)) (G:i≤j) (h:j≤cap):AK P σ (.slice T x (some lo) (some hi) none) ty w (.slice (if cap=i then a else a.map (·.add (i*k))) (j-i) (cap-i)) w:=λQ _ _ _ _ d=>by
 obtain⟨q,hu,O,rfl⟩:=FH K;simp[execOp,d _ _ J,d _ _ D,d _ _ F,Instr.sliceAt,Instr.slice,Instr.sliceBounds,Instr.sliceBound,asIntOf,run_underlying hu,sizeOf,typeInfo,O,G,h]
end
end Go.SW
namespace Go.SP
open Go.SW Go.RowKit
variable {f:Fq}{acc:List Cn}{ks:List NR}{i:Nat}
theorem Bq.rest2{w:wO}{a:oA}{t t':Aq}{k F r:Fo}{c:Nat}(h:Bq w f (.cons t k (.cons t' F r)) a c):Bq w f r (if c=2 then a else a.map (·.add (2*6))) (c-2):=by
 obtain⟨D,d⟩:=h;simp only[Fo.len] at D;refine⟨oM,?_⟩;rcases d with d|⟨b,off,rfl,K,O,G⟩
 · cases d
 · by_cases J:c=2
   · left
     cases r with
     |nil=>rfl
     |cons _ _ _=>simp only[Fo.len] at D;omega
   · exact .inr ⟨b,off+2*6,by rw[if_neg J];rfl,by rw[show off+2*6=off+6+6 by omega];exact G⟩
theorem iM(l:List NR):∀v∈l.flatMap JE,v.oneCell'=true:=λv D=>by
 obtain⟨x,_,d⟩:=List.mem_flatMap.1 D;simp only[JE,List.mem_cons,List.not_mem_nil,or_false] at d;rcases d with rfl|rfl|rfl|rfl|rfl|rfl <;> rfl
def J8(d:lU):Nat→List NR→List Cn
 |_,[]=>[]
 |i,x::l=>if x.op==42 then (x.tx,d,i,x.n)::J8 d (i+1) l else J8 d i l
def Q8(x:NR)(ks:List NR):List Cn:=if x.op==41 then J8 x.tx 0 ks else []
theorem YO{d:lU}{x:NR}{l:List NR}(h:x.op=42):J8 d i (x::l)=(x.tx,d,i,x.n)::J8 d (i+1) l:=by
 conv=>lhs;unfold J8
 rw[h];rfl
theorem wN{d:lU}{x:NR}{l:List NR}(h:x.op=31):J8 d i (x::l)=J8 d i l:=by
 conv=>lhs;unfold J8
 rw[h];rfl
theorem JY{t:Aq}{k:Fo}(h:(DB t k==[100,97,116,97])=false):XI t k=[]:=by
 unfold XI
 split
 · rw[h];rfl
 · rfl
theorem aP{n:Nat}{t:Aq}{k:Fo}(h:(DB t k==[])=true):AP n t k=false:=by
 cases k with
 |nil=>rfl
 |cons a ak r=>unfold AP;rw[eq_of_beq h];rfl
theorem nA{n:Nat}{t:Aq}:L5 n t .nil=false:=rfl
theorem IB{n:Nat}{t h:Aq}{hk l:Fo}:L5 n t (.cons h hk l)=(t.k==0&&(decide ((l.len+1:Nat)≤(9:Int))&&(h.k==6&&l.allB (C2 n)))):=rfl
section
variable{n:Nat}{t h a b c:Aq}{hk ak bk ck r l:Fo}
theorem Ch(d:(DB t (.cons h hk (.cons a ak (.cons b bk (.cons c ck r))))==[100,97,116,97])=true):AP n t (.cons h hk (.cons a ak (.cons b bk (.cons c ck r))))=((a.rn&&(b.k==0&&decide ((bk.len:Int)≤8)))&&(RJ bk&&(Fo.cons c ck r).allB (L5 n))):=by
 unfold AP;rw[d];rfl
theorem Lu(d:(DB t (.cons h hk (.cons a ak (.cons b bk (.cons c ck r))))==[100,97,116,97])=true):XI t (.cons h hk (.cons a ak (.cons b bk (.cons c ck r))))=O9 a.tx 0 (.cons c ck r):=by
 unfold XI;rw[d];rfl
theorem F3(d:(DB t (.cons h hk l)==[100,97,116,97])=true)(D:l.len<3):AP n t (.cons h hk l)=false:=by
 unfold AP;rw[d];simp only[if_true]
 split
 · simp only[Fo.len] at D;omega
 · rfl
theorem HS(d:(DB t (.cons h hk (.cons a ak (.cons b bk (.cons c ck .nil))))==[100,97,116,97])=false)(D:(DB t (.cons h hk (.cons a ak (.cons b bk (.cons c ck .nil))))==[114,111,111,116])=true):AP n t (.cons h hk (.cons a ak (.cons b bk (.cons c ck .nil))))=(a.rv&&(C2 n b bk&&Cv n c ck)):=by
 unfold AP;rw[d,D];rfl
theorem Hi(d:(DB t (.cons h hk l)==[100,97,116,97])=false)(D:(DB t (.cons h hk l)==[114,111,111,116])=true)(F:l.len≠3):AP n t (.cons h hk l)=false:=by
 unfold AP;rw[d,D];simp only[if_true];rw[if_neg (by decide)]
 split
 · exact absurd C F
 · rfl
theorem Jq(d:(DB t (.cons h hk (.cons a ak (.cons b bk .nil)))==[100,97,116,97])=false)(D:(DB t (.cons h hk (.cons a ak (.cons b bk .nil)))==[114,111,111,116])=false)(F:(DB t (.cons h hk (.cons a ak (.cons b bk .nil)))==[100,101,102])=true):AP n t (.cons h hk (.cons a ak (.cons b bk .nil)))=(a.rv&&Cv n b bk):=by
 unfold AP;rw[d,D,F];rfl
theorem HM(d:(DB t (.cons h hk l)==[100,97,116,97])=false)(D:(DB t (.cons h hk l)==[114,111,111,116])=false)(F:(DB t (.cons h hk l)==[100,101,102])=true)(G:l.len≠2):AP n t (.cons h hk l)=false:=by
 unfold AP;rw[d,D,F];simp only[if_true];rw[if_neg (by decide),if_neg (by decide)]
 split
 · exact absurd C G
 · rfl
theorem Hw(d:(DB t (.cons h hk (.cons a ak (.cons b bk .nil)))==[100,97,116,97])=false)(D:(DB t (.cons h hk (.cons a ak (.cons b bk .nil)))==[114,111,111,116])=false)(F:(DB t (.cons h hk (.cons a ak (.cons b bk .nil)))==[100,101,102])=false)(G:(DB t (.cons h hk (.cons a ak (.cons b bk .nil)))==[114,101,99])=true):AP n t (.cons h hk (.cons a ak (.cons b bk .nil)))=((a.rv&&FY b bk)&&Cv n b bk):=by
 unfold AP;rw[d,D,F,G];rfl
theorem HR(d:(DB t (.cons h hk l)==[100,97,116,97])=false)(D:(DB t (.cons h hk l)==[114,111,111,116])=false)(F:(DB t (.cons h hk l)==[100,101,102])=false)(G:(DB t (.cons h hk l)==[114,101,99])=true)(J:l.len≠2):AP n t (.cons h hk l)=false:=by
 unfold AP;rw[d,D,F,G];simp only[if_true];rw[if_neg (by decide),if_neg (by decide),if_neg (by decide)]
 split
 · exact absurd C J
 · rfl
theorem GM(D:(DB t (.cons h hk l)==[100,97,116,97])=false)(F:(DB t (.cons h hk l)==[114,111,111,116])=false)(G:(DB t (.cons h hk l)==[100,101,102])=false)(J:(DB t (.cons h hk l)==[114,101,99])=false){d:Bool}(K:(DB t (.cons h hk l)==[100,111])=d):AP n t (.cons h hk l)=(if d then (l.len:Int)==1&&l.allB (Cv n) else false):=by
 unfold AP;rw[D,F,G,J,K];rfl
end
theorem Fo.three1:∀l:Fo,(∃a ak b bk c ck q,l=.cons a ak (.cons b bk (.cons c ck q)))∨l.len<3
 |.nil=>.inr (by simp[Fo.len])
 |.cons _ _ .nil=>.inr (by simp[Fo.len])
 |.cons _ _ (.cons _ _ .nil)=>.inr (by simp[Fo.len])
 |.cons a ak (.cons b bk (.cons c ck q))=>.inl ⟨a,ak,b,bk,c,ck,q,C⟩
abbrev OutTp(T:tI)(d:Nat)(b0:Bool)(n:Nat)(t:Aq)(k:Fo)(w:wO)(f:Fq):Value→wO→Prop :=
 EF (α:=NR×List NR×Bool×Int×Int) (λy=>nrV y.1) (λy=>y.2.2.1=(b0||!AP n t k)∧(y.1.op=41→y.1.n=y.2.1.length)∧(y.2.2.1=false→Q8 y.1 y.2.1=XI t k)∧y.2.1.length≤k.sz) (λb=>b=d) (λy=>Bm T d y.2.2.1 y.2.2.2.1 y.2.2.2.2) (λy=>[λw f=>Dc JE w f y.2.1 y.1.a y.1.c∨y.1.op≠41]) w f
theorem Ep{b0 M:Bool}(h:M=false){k:Fo}{c:List Cn}:true=(b0||!M)∧(EM.op=41→EM.n=([]:List NR).length)∧(true=false→Q8 EM []=c)∧([]:List NR).length≤k.sz:=⟨CM h,(λh=>by cases h),(λh=>by cases h),Nat.zero_le _⟩
theorem wE{d:lU}{x:NR}(h:∀D,J8 d 0 (ks++D)=acc++J8 d i D)(F:x.op=42):∀D,J8 d 0 ((ks++[x])++D)=(acc++[(x.tx,d,i,x.n)])++J8 d (i+1) D:=λD=>by
 rw[List.append_assoc,h,show [x]++D=x::D from C,YO F,List.append_assoc];rfl
theorem aJ{d:lU}{x:NR}(h:∀D,J8 d 0 (ks++D)=J8 d 0 D)(F:x.op=31):∀D,J8 d 0 ((ks++[x])++D)=J8 d 0 D:=λD=>by
 rw[List.append_assoc,h,show [x]++D=x::D from C,wN F]
end Go.SP
namespace Go.SP
variable {E xb:Bool}
theorem VI{b0:Bool}(h:xb=(b0||!(E&&true))):xb=(b0||!E):=by subst h;cases b0 <;> cases E <;> rfl
theorem eJ{b0 d A:Bool}(D:xb=(b0||!(E&&true)))(F:d=(xb||!(A&&true))):d=(b0||!(E&&A)):=by subst F D;cases b0 <;> cases E <;> cases A <;> rfl
end Go.SP
namespace Go.SP
open Go.SW Go.RowKit
def Kn(ns:List (NR×List NR)):Nat:=(ns.map λp=>p.2.length).sum
theorem Z3(a b:List (NR×List NR)):Kn (a++b)=Kn a+Kn b:=by unfold Kn;rw[List.map_append,List.sum_append]
def RH(w:wO)(f:Fq)(ns:List (NR×List NR)):Prop:=∀p∈ns,Dc JE w f p.2 p.1.a p.1.c∨p.1.op≠41
variable {f:Fq}{ns:List (NR×List NR)}{L:List Aq}{ks:List NR}
theorem RH.mono:EI (λw f=>RH w f ns):=λ_ _ _ _ h d p D=>(h p D).imp (λh=>Dc.mono _ _ _ _ h d) id
theorem RH.snoc{w:wO}{x:NR}(h:RH w f ns)(D:Dc JE w f ks x.a x.c∨x.op≠41):RH w f (ns++[(x,ks)]):=λp d=>by
 rcases List.mem_append.1 d with d|d
 · exact h p d
 · rcases List.mem_singleton.1 d with rfl;exact D
def PgQ(src:lU)(ns:List (NR×List NR))(e:Int):Prop:=(e=10∧(∃p:Ps,EG src=.error (p.1,p.2,10))∧ns=[])∨∃L lp,EG src=.ok lp∧lp.map Aq.ft=L.map Aq.ft∧(∀t∈L,t.ok) ∧
 ((fK (A7 L [] .nil)=true∧e=10∧ns=[])∨∃d,A7 L [] .nil=.ok d∧d.all (DP 200)∧((d.allB (AP 200)=false∧e=10∧ns=[])∨(d.allB (AP 200)=true∧e=0∧(ns.flatMap λp=>Q8 p.1 p.2)=Z6 d)))
def iQ(ns:List (NR×List NR)):Prop:=(∀p∈ns,p.1.op=41→p.1.n=p.2.length)∧Kn ns≤100000∧ns.length≤100000
theorem iQ.nil:iQ []:=⟨(λ_ h=>by cases h),Nat.zero_le _,Nat.zero_le _⟩
theorem ft_ok{lp:List Aq}(h:lp.map Aq.ft=L.map Aq.ft)(G:∀t∈lp,t.ok)(J:∀t∈L,t.tx.length≤100000):∀t∈L,t.ok:=λt D=>by
 refine⟨λhk=>?_,J t D⟩;have K:t.ft∈lp.map Aq.ft:=by rw[h];exact List.mem_map_of_mem D
 obtain⟨u,hu,d⟩:=List.mem_map.1 K;have O:t.ft=t:=by unfold Aq.ft;rw[hk];rfl
 have Q:u=t:=by
   rw[O] at d;unfold Aq.ft at d
   split at d
   · rename_i F;rw[← d] at hk;rw[show u.k=5 from hk] at F;exact absurd F dC
   · exact d
 exact (G t (Q▸hu)).1 hk
theorem Fo.sz_snoc:∀(x:Fo)(t:Aq)(k:Fo),(x.snoc t k).sz=x.sz+k.sz+1
 |.nil,t,k=>by show k.sz+0+1=0+k.sz+1;omega
 |.cons a b r,t,k=>by show b.sz+(r.snoc t k).sz+1=b.sz+r.sz+1+k.sz+1;rw[Fo.sz_snoc r t k];omega
def mD:List (Aq×Fo)→Nat
 | []=>0
 |p::s=>p.2.sz+1+mD s
theorem Sy:∀(l:List Aq)(st:List (Aq×Fo))(cur d:Fo),A7 l st cur=.ok d→d.sz≤mD st+cur.sz+l.length
 | [],[],cur,d,h=>by cases h;show cur.sz≤0+cur.sz+0;omega
 | [],o::s,cur,d,h=>by
   unfold A7 at h
   split at h <;> cases h
 |k::l,st,cur,d,h=>by
   rw[A7.eq_def] at h;simp only at h
   split at h
   · split at h
     · cases h
     · have:=Sy l ((k,cur)::st) .nil d h
       simp only[mD,Fo.sz,List.length_cons] at this ⊢;omega
   · split at h
     · cases st with
       |nil=>cases h
       |cons op s =>
         obtain⟨o,p⟩:=op;have:=Sy l s (p.snoc o cur) d h;rw[Fo.sz_snoc] at this;simp only[mD,List.length_cons] at this ⊢;omega
     · have:=Sy l st (cur.snoc k .nil) d h
       rw[Fo.sz_snoc] at this;simp only[Fo.sz,List.length_cons] at this ⊢;omega
end Go.SP
namespace Go.SP
open Go.SW Go.RowKit
variable {ks:List NR}
theorem bW{x:NR}:EI (λw f=>Dc JE w f ks x.a x.c∨x.op≠41):=λ_ _ _ _ h d=>h.imp (λh=>Dc.mono _ _ _ _ h d) id
theorem LU{α:Type}[BEq α][LawfulBEq α]{a b:α}(h:(a != b)=true):a≠b:=bne_iff_ne.1 h
end Go.SP
namespace Go.SP
open Go.SW Go.RowKit
def jI(x:Cn):lV:=[S x.1,S x.2.1,.int .i64 (x.2.2.1:Int),.int .i64 (x.2.2.2:Int)]
def Gg:List Cn:=[([70,97,108,115,101],[98,111,111,108],0,0),([84,114,117,101],[98,111,111,108],1,0),([68,105,118],[101,120,110],0,0),([77,97,116,99,104],[101,120,110],1,0),([65,98,111,114,116],[101,120,110],2,0),([75,101,101,112],[101,120,110],3,0),([79,117,116],[101,120,110],4,0),([70,97,105,108],[101,120,110],5,1)]
theorem MF(d:lU):∀(l:List NR)(i:Nat),(J8 d i l).length≤l.length
 | [],i=>Nat.zero_le _
 |x::l,i=>by
   unfold J8
   split
   · exact Nat.succ_le_succ (MF d l _)
   · exact Nat.le_succ_of_le (MF d l _)
theorem gY(x:NR)(ks:List NR):(Q8 x ks).length≤ks.length:=by
 unfold Q8
 split
 · exact MF _ _ _
 · exact Nat.zero_le _
theorem Qp:∀ns:List (NR×List NR),(ns.flatMap λp=>Q8 p.1 p.2).length≤Kn ns
 | []=>Nat.le_refl _
 |p::ns=>by
   have d:=Qp ns;have D:=gY p.1 p.2;rw[List.flatMap_cons,List.length_append];show _≤p.2.length+Kn ns;omega
variable {co ln nm:Int}{ks:List NR}{i:Nat}
theorem rB{d:lU}{x:NR}{l:List NR}(h:(x.op==42)=false):J8 d i (x::l)=J8 d i l:=by
 conv=>lhs;unfold J8
 rw[h];rfl
theorem mS{d:lU}{x:NR}{l:List NR}(h:(x.op==42)=true):J8 d i (x::l)=(x.tx,d,i,x.n)::J8 d (i+1) l:=YO (eq_of_beq h)
theorem tU{x:NR}(h:(x.op != 41)=true):Q8 x ks=[]:=by unfold Q8;rw[if_neg];intro d;rw[bne,d] at h;cases h
theorem mU{x:NR}(h:(x.op != 41)=false):Q8 x ks=J8 x.tx 0 ks:=by unfold Q8;rw[if_pos];exact beq_iff_eq.2 (bne_eq_false_iff_eq.1 h)
theorem Jp{α:Type}{l:List α}{x:α}(h:l[i]?=some x):l.drop i=x::l.drop (i+1):=by rw[List.drop_eq_getElem_cons (List.getElem?_eq_some_iff.1 h).1,(List.getElem?_eq_some_iff.1 h).2]
def Nd.k41:Nd→Prop
 |.nil=>True
 |.cons op _ _ _ _ k r=>(op=41→k.len≤200000)∧r.k41
theorem eF{d tx:lU}{op:Int}{k r:Nd}(h:(op==42)=true):Ho d i (.cons op ln co tx nm k r)=(tx,d,i,k.len)::Ho d (i+1) r:=by
 conv=>lhs;unfold Ho
 rw[h];rfl
theorem gG{d tx:lU}{op:Int}{k r:Nd}(h:(op==42)=false):Ho d i (.cons op ln co tx nm k r)=Ho d i r:=by
 conv=>lhs;unfold Ho
 rw[h];rfl
theorem sO{tx:lU}{op:Int}{k r:Nd}(h:(op != 41)=true):Ip (.cons op ln co tx nm k r)=Ip r:=by
 show (if op==41 then _ else [])++Ip r=_;rw[if_neg]
 · rfl
 · intro d;rw[bne,d] at h;cases h
theorem Wz{tx:lU}{op:Int}{k r:Nd}(h:(op != 41)=false):Ip (.cons op ln co tx nm k r)=Ho tx 0 k++Ip r:=by
 show (if op==41 then _ else [])++Ip r=_;rw[if_pos];exact beq_iff_eq.2 (bne_eq_false_iff_eq.1 h)
end Go.SP
namespace Go.SP
theorem SJ:∀{ns:List (NR×List NR)}{p:NR×List NR},p∈ns→p.2.length≤Kn ns
 |q::ns,p,h=>by
   show p.2.length≤q.2.length+Kn ns;rcases List.mem_cons.1 h with rfl|h
   · omega
   · have:=SJ h;omega
variable {acc:List Cn}{ks:List NR}
theorem sB{d:lU}{n k:Nat}{D:List Cn}(h:D++J8 d n (ks.drop k)=acc++J8 d 0 ks)(hk:ks.length≤k):D=acc++J8 d 0 ks:=by
 rw[List.drop_eq_nil_of_le hk] at h;rw[← h];exact (List.append_nil _).symm
end Go.SP
namespace Go.Proofs.YtnojaendcldjpaaGreatDoor
open Go.SW Go.SP Go.RowKit Go.Proofs.Tryz
theorem ttop(n:Nat)(w:wO)(f:Fq)(hv:Vl w f)(G:Nat)(b0:Bool)(l0 c0:Int)(hX:Bm 92 G b0 l0 c0 w f)(hf:f G=0)(t:Aq)(k:Fo)(ka:oA)(kc:Nat)(hp:DP (n+1) t k)(hsz:k.sz≤100000)(hL:Bq w f k ka kc) :
   AX prog 30 #[.pointer (some ⟨G,0,none⟩),fV t ka k.len kc] w (OutTp 92 G b0 (n+1) t k w f):=by
 refine Gb (X:=⟨λb=>b=G,λb=>b=G,Bm 92 G b0 l0 c0,w,f⟩) (H:=[]) (R:=[]) (B:=[]) (Fs:=[λw f=>Bq w f k ka kc]) (f:=f) func30 C C C (JF (M:=λb=>b=G) (I:=Bm 92 G b0 l0 c0) hv hX Bm.stab (λb hb=>by cases hb;exact⟨AS.lt hX,hf⟩) ⟨hL,tQ⟩ ⟨Bq.mono,tQ⟩)<|Ae 19 [1,0,2] (λb1=>λb2=>y<|λb3=>y<|y<|λ_=>BO C C (eC HP C C) (λw f d=>KQ w f d.vl t k _ _ d.f0)<|Aa 10 (λ_=>?_))
 · refine Ap 20 C C (λh1=>?_) (λh1=>?_)
   refine Ae 5 [2] (y<|λ_=>CI (XX:=λ_ _=>False) C C (eC AD C C) (λw f d=>(B6 w f d.vl G b0 l0 c0 d.res (d.mi G C).2.1 t _ _ _).retP) (λ_=>Bm.stab) (λ_=>trivial) (λ_ _ _ _ _ h=>h.elim) ?_);rintro⟨D,F⟩ -;exact Ae 5 [1] (y<|λ_=>A5 (λw f d=>Ao C (Ab C A2 d.k1 C)) (λw f d=>⟨(EM,[],true,D,F),f,C,Ep (by show AP (n+1) t k=false;exact aP h1),d.exm,d.res,⟨.inr (show (0:Int)≠41 by decide),tQ⟩⟩));refine Aa 4 (λ_=>?_);rcases Fo.nc k with rfl|⟨h,Z,r,rfl⟩
   · exact Bool.noConfusion ((show (DB t Fo.nil==[])=true from C).symm.trans h1)
   have hkl2:r.len+1≤100000:=hp.2.2.1;have hszk:Z.sz+r.sz+1≤100000:=hsz;have J:=Ol hp;refine cW 0 C<|Ae 3 [2] (y<|λ_=>BN C C (λw f d=>Cd (m:=r.len) C C C FW) ?_);generalize DL ka kc 6=la;generalize kc-1=lc;refine Aa 23 (λ_=>Ap 33 C C (λY=>?_) (λY=>?_));refine Aa 3 (λ_=>?_);rcases Fo.three1 r with ⟨a,ak,b,bk,c,Q,q,rfl⟩|hne
   have hszl:ak.sz+(bk.sz+(Q.sz+q.sz+1)+1)+1≤100000:=by have K:Z.sz+(ak.sz+(bk.sz+(Q.sz+q.sz+1)+1)+1)+1≤100000:=hszk;omega
   have hbl:=Fo.len_sz bk;have hql:=Fo.len_sz q;refine JN 0 C<|Hr 0 C ?_;rintro⟨L,O,k0a,k0c⟩ rfl;refine MY 1 C ?_;rintro⟨k1a,k1c⟩;refine Aa 4 (λ_=>Ap 37 C C (λh3=>?_) (λh3=>?_));have K:decide ((((q.len+1+1+1):Nat):Int)<3)=true:=h3;have:=dT K;omega;refine Ae 3 [101,0] (And.intro (by first|omega|(simp only[Fo.len];omega))<|y2<|λ_=>BO C C (eC Vg C C) (λw f d=>Vm w f d.vl a _ _ _ J.2.1.1.1)<|Aa 3 (λ_=>Ap 44 C C (λW=>?_) (λW=>?_)));replace W:=B5 W;refine Ae 21 [2] (y<|λ_=>CI (XX:=λ_ _=>False) C C (eC AD C C) (λw f d=>(B6 w f d.vl G b0 l0 c0 d.res (d.mi G C).2.1 t _ _ _).retP) (λ_=>Bm.stab) (λ_=>trivial) (λ_ _ _ _ _ h=>h.elim) ?_);rintro⟨D,F⟩ -;exact Ae 7 [1] (y<|λ_=>A5 (λw f d=>Ao C (Ab C A2 d.k1 C)) (λw f d=>⟨(EM,[],true,D,F),f,C,Ep (by show AP (n+1) t (.cons h Z (.cons a ak (.cons b bk (.cons c Q q))))=false;rw[Ch Y,W];rfl),d.exm,d.res,⟨.inr (show (0:Int)≠41 by decide),tQ⟩⟩));replace W:=B3 W;refine Ae 3 [100,0] (And.intro (by first|omega|(simp only[Fo.len];omega))<|y2<|λ_=>BO C C (eC HQ C C) (λw f d=>Lf w f d.vl b _ _ _)<|Aa 3 (λ_=>Ap 51 C C (λU=>?_) (λU=>?_)));replace U:=B5 U;refine Ae 14 [2] (y<|λ_=>CI (XX:=λ_ _=>False) C C (eC AD C C) (λw f d=>(B6 w f d.vl G b0 l0 c0 d.res (d.mi G C).2.1 t _ _ _).retP) (λ_=>Bm.stab) (λ_=>trivial) (λ_ _ _ _ _ h=>h.elim) ?_);rintro⟨D,F⟩ -;exact Ae 7 [1] (y<|λ_=>A5 (λw f d=>Ao C (Ab C A2 d.k1 C)) (λw f d=>⟨(EM,[],true,D,F),f,C,Ep (by show AP (n+1) t (.cons h Z (.cons a ak (.cons b bk (.cons c Q q))))=false;rw[Ch Y,W,U];rfl),d.exm,d.res,⟨.inr (show (0:Int)≠41 by decide),tQ⟩⟩));replace U:=B3 U;refine Ae 9 [100,5] (And.intro (by first|omega|(simp only[Fo.len];omega))<|y2<|λ_=>Ap 58 C C (λh6=>?_) (λh6=>?_));refine Ae 5 [2] (y<|λ_=>CI (XX:=λ_ _=>False) C C (eC AD C C) (λw f d=>(B6 w f d.vl G b0 l0 c0 d.res (d.mi G C).2.1 t _ _ _).retP) (λ_=>Bm.stab) (λ_=>trivial) (λ_ _ _ _ _ h=>h.elim) ?_);rintro⟨D,F⟩ -;exact Ae 7 [1] (y<|λ_=>A5 (λw f d=>Ao C (Ab C A2 d.k1 C)) (λw f d=>⟨(EM,[],true,D,F),f,C,Ep (by show AP (n+1) t (.cons h Z (.cons a ak (.cons b bk (.cons c Q q))))=false;rw[Ch Y,W,U,(Dt h6)];rfl),d.exm,d.res,⟨.inr (show (0:Int)≠41 by decide),tQ⟩⟩));refine Ae 27 [0,101,4,0] (y<|And.intro (by first|omega|(simp only[Fo.len];omega))<|y2<|y<|λ_=>LY 94 6 ?_)
   refine DK (α:=Nat×Fo×List NR×oA×Nat) (λx=>x.2.1.len) (λx=>x.1+x.2.1.len=bk.len∧RJ bk=RJ x.2.1∧x.2.2.1.length=x.1∧(∀ys,J8 a.tx 0 (x.2.2.1++ys)=J8 a.tx 0 ys)∧x.2.1.all (DP n)) (λx=>(E7 0 (.pointer (some ⟨G,0,none⟩)) 3 (.pointer (some ⟨b1,0,none⟩)) 4 (.pointer (some ⟨b2,0,none⟩)) 5 (.pointer (some ⟨b3,0,none⟩)) 7 (.slice (some ⟨L,O,none⟩) (q.len+1+1+1) lc) 8 (.int .i64 (((q.len+1+1+1):Nat):Int)) 9 (.int .i64 (x.1:Int)))) (λx=>⟨λb=>b=G,λb=>b=G,Bm 92 G b0 l0 c0,w,f⟩) (λx=>[⟨b3,GQ 41 t.ln t.co a.tx 0 x.2.2.2.1 x.2.2.1.length x.2.2.2.2,94,true⟩,⟨b2,GQ 0 0 0 [] 0 none 0 0,94,true⟩,⟨b1,LQ t ka ((q.len+1+1+1)+1) kc,99,true⟩]) (λx=>[⟨94,6,x.2.2.2.1,x.2.2.2.2,x.2.2.1.length,x.2.2.1.flatMap JE⟩]) (λx=>[⟨L,O+0*6,LQ a k0a ak.len k0c⟩,⟨L,O+1*6,LQ b k1a bk.len k1c⟩]) (λx=>[λw f=>Bt w f k1a x.1 x.2.1,λw f=>Bt w f (some ⟨L,O,none⟩) 2 (.cons c Q q)]) ((0,bk,[],none,0)) ⟨Nat.zero_add _,C,C,(λ_=>C),MK J.2.2.1⟩ lE (λw f d=>(d.more (B':=[]) (F':=[λw f=>Bt w f k1a 0 bk]) nE (AR.mem ⟨Bq.at d.f0,tQ⟩) (Au.mem ⟨Bt.mono,tQ⟩)).less (sK (sK (sK sZ))) sR (λe h=>by rcases List.mem_cons.1 h with rfl|h;exact .tail _ (.head _);rcases List.mem_cons.1 h with rfl|h;exact .head _;cases h) (mR [0,2])) ?_;rintro⟨i,r1,dn,oa,oc⟩ ⟨hi,hok,hdl,hcn,hr1⟩;dsimp only at hi hok hdl hcn hr1 ⊢;refine Ae 12 [101,5] (And.intro (by first|omega|(simp only[Fo.len];omega))<|y2<|λ_=>Ap 75 C C (λh7=>?_) (λh7=>?_));refine Aa 6 (λ_=>?_);have hil:i<bk.len:=by have:=dT h7;omega
   obtain⟨t2,k2,r1,rfl⟩:=Fo.cases1 r1 oM;have hi2:i+(r1.len+1)=bk.len:=hi;refine Hr 0 C ?_;rintro⟨eb2,eo2,ka2,kc2⟩ rfl;refine Ae 16 [102,5,100,0,0,0] (And.intro (by first|omega|(simp only[Fo.len];omega))<|y2<|And.intro (by first|omega|(simp only[Fo.len];omega))<|y2<|λb4=>y<|y<|λ_=>BO C C (eC dK C C) (λw f d=>pH w f d.vl t2 _ _ _ hr1.1.1.1)<|Aa 3 (λ_=>Ap 87 C C (λh8=>?_) (λh8=>?_)));replace h8:=B5 h8;refine Ae 5 [3] (y<|λ_=>CI (XX:=λ_ _=>False) C C (eC AD C C) (λw f d=>(B6 w f d.vl G b0 l0 c0 d.res (d.mi G C).2.1 t _ _ _).retP) (λ_=>Bm.stab) (λ_=>trivial) (λ_ _ _ _ _ h=>h.elim) ?_);rintro⟨D,F⟩ -;exact Ae 7 [2] (y<|λ_=>Hf<|Aa 4 (λ_=>A5 (λw f d=>Ao C (Ab C A2 d.k2 C)) (λw f d=>⟨(EM,[],true,D,F),f,C,Ep (by show AP (n+1) t (.cons h Z (.cons a ak (.cons b bk (.cons c Q q))))=false;rw[Ch Y,W,U,(show decide ((bk.len:Int)≤8)=!false from Dt h6),(show RJ bk=false from hok.trans (by show (t2.rt&&RJ r1)=false;rw[h8];rfl))];rfl),d.exm,d.res,⟨.inr (show (0:Int)≠41 by decide),tQ⟩⟩)));replace h8:=B3 h8;exact Ae 14 [1,0,0] (y<|y<|y<|λb5=>λ_=>Dd 0 0 C C IM C C C C C C C C (λ_ _=>C) oM oM λoa2 oc2=>Ae 10 [2] (y<|And.intro ⟨oM,oM⟩<|λ_=>Ce ((i+1,r1,dn++[⟨31,t2.ln,t2.co,t2.tx,0,none,0,0⟩],oa2,oc2)) (show r1.len<r1.len+1 from Nat.lt_succ_self _) ⟨show i+1+r1.len=bk.len by omega,hok.trans (by show (t2.rt&&RJ r1)=_;rw[h8];rfl),(by show (dn++[_]).length=i+1;simp[hdl]),aJ hcn C,hr1.2⟩ lE (λw f d=>⟨_,(by have e:(dn++[(⟨31,t2.ln,t2.co,t2.tx,0,none,0,0⟩:NR)]).length=dn.length+1:=(by simp);dsimp only;rw[e,BR];exact d.less (sD (sD (sK (sK (sK sZ))))) sR (λe h=>by rcases List.mem_cons.1 h with rfl|h;exact .tail _ (.head _);rcases List.mem_cons.1 h with rfl|h;exact .tail _ (.tail _ (.head _));cases h) (mR [1,3]))⟩)));refine Aa 3 (λ_=>Df<|Aa 8 (λ_=>?_));obtain rfl:r1=.nil:=Fo.len0 (by have:=dF h7;omega);have hil:i=bk.len:=hi
   refine DK (α:=Nat×Fo×Bool×Int×Int×List NR×List Cn×oA×Nat) (λx=>x.2.1.len) (λx=>x.1+x.2.1.len=q.len+1∧(x.2.2.1||!x.2.1.allB (L5 (n+1)))=(b0||!Fo.allB (L5 (n+1)) (.cons c Q q))∧x.2.1.sz≤Q.sz+q.sz+1∧x.2.1.all (DP n)∧x.2.2.2.2.2.1.length≤bk.len+x.1∧(∀ys,J8 a.tx 0 (x.2.2.2.2.2.1++ys)=x.2.2.2.2.2.2.1++J8 a.tx x.1 ys)∧(x.2.2.1=false→x.2.2.2.2.2.2.1++O9 a.tx x.1 x.2.1=O9 a.tx 0 (.cons c Q q))) (λx=>(E7 0 (.pointer (some ⟨G,0,none⟩)) 3 (.pointer (some ⟨b1,0,none⟩)) 4 (.pointer (some ⟨b2,0,none⟩)) 5 (.pointer (some ⟨b3,0,none⟩)) 7 (.slice (some ⟨L,O,none⟩) (q.len+1+1+1) lc) 8 (.int .i64 (((q.len+1+1+1):Nat):Int)) 11 (.int .i64 ((x.1+2:Nat):Int)))) (λx=>⟨λb=>b=G,λb=>b=G,Bm 92 G x.2.2.1 x.2.2.2.1 x.2.2.2.2.1,w,f⟩) (λx=>[⟨b3,GQ 41 t.ln t.co a.tx 0 x.2.2.2.2.2.2.2.1 x.2.2.2.2.2.1.length x.2.2.2.2.2.2.2.2,94,true⟩,⟨b2,GQ 0 0 0 [] 0 none 0 0,94,true⟩,⟨b1,LQ t ka ((q.len+1+1+1)+1) kc,99,true⟩]) (λx=>[⟨94,6,x.2.2.2.2.2.2.2.1,x.2.2.2.2.2.2.2.2,x.2.2.2.2.2.1.length,x.2.2.2.2.2.1.flatMap JE⟩]) (λx=>[]) (λx=>[λw f=>Bt w f (some ⟨L,O,none⟩) (x.1+2) x.2.1]) ((0,(.cons c Q q),b0,l0,c0,dn,[],oa,oc)) ⟨Nat.zero_add _,C,Nat.le_refl _,J.2.2.2,(show dn.length≤bk.len+0 by omega),hcn,(λ_=>C)⟩ lE (λw f d=>d.less (sK (sK (sK sZ))) sR nE (mR [1])) ?_;rintro⟨j,r2,b2,l2,c2,ks,acc,oa,oc⟩ ⟨hi,hb,hds,hr2,hkn,hcn,hac⟩;dsimp only at hi hb hds hr2 hkn hcn hac ⊢;refine Aa 7 (λ_=>Ap 106 C C (λh8=>?_) (λh8=>?_));refine Aa 3 (λ_=>BN C C (λw f d=>Ai C H8 d.res C)<|Aa 4 (λ_=>Ap 112 C C (λh9=>?_) (λh9=>?_)));replace h9:=B5 h9;refine Aa 6 (λ_=>?_);have hil:j≤q.len:=by have K:decide (((j+2:Nat):Int)<((q.len+1+1+1:Nat):Int))=true:=h8;have:=dT K;omega
   obtain⟨t2,k2,r2,rfl⟩:=Fo.cases1 r2 oM;have hi2:j+(r2.len+1)=q.len+1:=hi;obtain rfl:b2=false:=h9;have hr3:k2.sz+r2.sz+1≤Q.sz+q.sz+1:=hds;refine Hh (α:=Nat×Nat×oA×Nat) (λx=>(some (⟨L,O,none⟩:Addr))=some ⟨x.1,x.2.1,none⟩) (λx=>[⟨x.1,x.2.1+(j+2)*6,LQ t2 x.2.2.1 k2.len x.2.2.2⟩]) (λx=>[λw f=>Bq w f k2 x.2.2.1 x.2.2.2,λw f=>Bt w f (some (⟨L,O,none⟩:Addr)) ((j+2)+1) r2]) (λw f d=>let ⟨b,off,ka,kc,h1,Y,h3,W⟩:=Bt.head d.f0;⟨(b,off,ka,kc),h1,(oE Y),AR.mem ⟨h3,W,tQ⟩⟩) (λx=>Au.mem ⟨Bq.mono,Bt.mono,tQ⟩) ?_;rintro⟨eb2,eo2,ka2,kc2⟩ h44;obtain⟨rfl,rfl⟩:L=eb2∧O=eo2:=by cases h44;exact⟨C,C⟩
   refine Ae 11 [100,0,0] (And.intro (by first|omega|(simp only[Fo.len];omega))<|y2<|λb4=>y<|λ_=>?_);rcases Fo.nc k2 with rfl|⟨h3,hk3,l3,rfl⟩
   refine Ae 2 [0] (y<|λ_=>BO C C (eC HQ C C) (λw f d=>Lf w f d.vl t2 _ _ _)<|Aa 2 (λ_=>?_))
   · refine Ap 122 C C (λh10=>?_) (λh10=>?_)
     replace h10:=B5 h10;refine Ae 27 [0] (y<|λ_=>?_)
     rotate_left
     replace h10:=B3 h10;refine Ae 6 [0] (y<|λ_=>Ap 128 C C (λh11=>?_) (λh11=>?_));refine Ae 21 [0] (y<|λ_=>?_)
     rotate_left
     exact absurd (show ((Fo.nil.len:Nat):Int)<1 by decide) (dF h11)
     all_goals
       refine CI (XX:=λ_ _=>False) C C (eC AD C C) (λw f d=>(B6 w f d.vl G false l2 c2 d.res (d.mi G C).2.1 t2 _ _ _).retP) (λ_=>Bm.stab) (λ_=>trivial) (λ_ _ _ _ _ h=>h.elim) ?_;rintro⟨D,F⟩ -;refine Ae 7 [2] (y<|λ_=>Hf<|Aa 3 (λ_=>?_));have hb9:true=(b0||!Fo.allB (L5 (n+1)) (.cons c Q q)):=by rw[← hb];show true=(false||!(L5 (n+1) t2 _&&_));rw[nA];rfl
       exact A5 (λw f d=>Ao C (Ab C A2 d.k2 C)) (λw f d=>⟨(EM,[],true,D,F),f,C,⟨by show true=(b0||!AP (n+1) t (.cons h Z (.cons a ak (.cons b bk (.cons c Q q)))));rw[Ch Y,W,U,(show decide ((bk.len:Int)≤8)=!false from Dt h6),(show RJ bk=true from hok)];exact hb9,(λh=>by cases h),(λh=>by cases h),Nat.zero_le _⟩,d.exm,d.res,⟨.inr (show (0:Int)≠41 by decide),tQ⟩⟩)
   have hall3:=MK hr2.1;have hsz3:hk3.sz+l3.sz+1+r2.sz+1≤Q.sz+q.sz+1:=hr3;have hkl3:l3.len+1≤100000:=hr2.1.2.2.1;refine cW 0 C<|JN 1 C<|Hr 0 C ?_;rintro⟨eb3,eo3,ka3,kc3⟩ rfl;refine Ae 2 [0] (y<|λ_=>BO C C (eC HQ C C) (λw f d=>Lf w f d.vl t2 _ _ _)<|Aa 2 (λ_=>Ap 122 C C (λh10=>?_) (λh10=>?_)));replace h10:=B5 h10;refine Ae 27 [0] (y<|λ_=>CI (XX:=λ_ _=>False) C C (eC AD C C) (λw f d=>(B6 w f d.vl G false l2 c2 d.res (d.mi G C).2.1 t2 _ _ _).retP) (λ_=>Bm.stab) (λ_=>trivial) (λ_ _ _ _ _ h=>h.elim) ?_);rintro⟨D,F⟩ -;refine Ae 7 [2] (y<|λ_=>Hf<|Aa 3 (λ_=>?_));have hb9:true=(b0||!Fo.allB (L5 (n+1)) (.cons c Q q)):=by rw[← hb];show true=(false||!(L5 (n+1) t2 _&&_));rw[(show L5 (n+1) t2 (.cons h3 hk3 l3)=false by rw[IB,h10];rfl)];rfl
   exact A5 (λw f d=>Ao C (Ab C A2 d.k2 C)) (λw f d=>⟨(EM,[],true,D,F),f,C,⟨by show true=(b0||!AP (n+1) t (.cons h Z (.cons a ak (.cons b bk (.cons c Q q)))));rw[Ch Y,W,U,(show decide ((bk.len:Int)≤8)=!false from Dt h6),(show RJ bk=true from hok)];exact hb9,(λh=>by cases h),(λh=>by cases h),Nat.zero_le _⟩,d.exm,d.res,⟨.inr (show (0:Int)≠41 by decide),tQ⟩⟩);replace h10:=B3 h10;refine Ae 6 [0] (y<|λ_=>Ap 128 C C (λh11=>?_) (λh11=>?_));have K:decide (((l3.len+1:Nat):Int)<1)=true:=h11;have:=dT K;omega;refine Ae 6 [0] (y<|λ_=>Ap 134 C C (λh12=>?_) (λh12=>?_));refine Ae 15 [0] (y<|λ_=>CI (XX:=λ_ _=>False) C C (eC AD C C) (λw f d=>(B6 w f d.vl G false l2 c2 d.res (d.mi G C).2.1 t2 _ _ _).retP) (λ_=>Bm.stab) (λ_=>trivial) (λ_ _ _ _ _ h=>h.elim) ?_);rintro⟨D,F⟩ -;refine Ae 7 [2] (y<|λ_=>Hf<|Aa 3 (λ_=>?_));have hb9:true=(b0||!Fo.allB (L5 (n+1)) (.cons c Q q)):=by rw[← hb];show true=(false||!(L5 (n+1) t2 _&&_));rw[(show L5 (n+1) t2 (.cons h3 hk3 l3)=false by rw[IB,h10,(show decide ((l3.len+1:Nat)≤(9:Int))=_ from Dt h12)];rfl)];rfl
   exact A5 (λw f d=>Ao C (Ab C A2 d.k2 C)) (λw f d=>⟨(EM,[],true,D,F),f,C,⟨by show true=(b0||!AP (n+1) t (.cons h Z (.cons a ak (.cons b bk (.cons c Q q)))));rw[Ch Y,W,U,(show decide ((bk.len:Int)≤8)=!false from Dt h6),(show RJ bk=true from hok)];exact hb9,(λh=>by cases h),(λh=>by cases h),Nat.zero_le _⟩,d.exm,d.res,⟨.inr (show (0:Int)≠41 by decide),tQ⟩⟩);refine Ae 10 [0,100,0] (y<|And.intro (by first|omega|(simp only[Fo.len];omega))<|y2<|λ_=>Ap 142 C C (λh13=>?_) (λh13=>?_));refine Ae 5 [0] (y<|λ_=>CI (XX:=λ_ _=>False) C C (eC AD C C) (λw f d=>(B6 w f d.vl G false l2 c2 d.res (d.mi G C).2.1 t2 _ _ _).retP) (λ_=>Bm.stab) (λ_=>trivial) (λ_ _ _ _ _ h=>h.elim) ?_);rintro⟨D,F⟩ -;refine Ae 7 [2] (y<|λ_=>Hf<|Aa 3 (λ_=>?_));have hb9:true=(b0||!Fo.allB (L5 (n+1)) (.cons c Q q)):=by rw[← hb];show true=(false||!(L5 (n+1) t2 _&&_));rw[(show L5 (n+1) t2 (.cons h3 hk3 l3)=false by rw[IB,h10,(show decide ((l3.len+1:Nat)≤(9:Int))=_ from Dt h12),(E1 h13)];rfl)];rfl
   exact A5 (λw f d=>Ao C (Ab C A2 d.k2 C)) (λw f d=>⟨(EM,[],true,D,F),f,C,⟨by show true=(b0||!AP (n+1) t (.cons h Z (.cons a ak (.cons b bk (.cons c Q q)))));rw[Ch Y,W,U,(show decide ((bk.len:Int)≤8)=!false from Dt h6),(show RJ bk=true from hok)];exact hb9,(λh=>by cases h),(λh=>by cases h),Nat.zero_le _⟩,d.exm,d.res,⟨.inr (show (0:Int)≠41 by decide),tQ⟩⟩);refine Aa 3 (λ_=>Cq [0,2,3] Aj (rd [0,2,3,4,5,6,7,8,9,10,11,12,13,14] (.br 1 (.br 15 (.rd 16 (.br 17 (.br 18 (.rd 19 (.br 20 .fin .fin)) .fin) .fin)) .fin) (.br 15 (.rd 16 (.br 1 (.br 17 (.br 18 (.rd 19 (.br 20 .fin .fin)) .fin) .fin) (.br 17 (.br 1 (.br 18 (.rd 19 (.br 20 .fin .fin)) .fin) .fin) .fin))) .fin))) C kR<|By 13 [0,0,100,4,0] (y<|y<|And.intro (by first|omega|(simp only[Fo.len];omega))<|y2<|y<|λ_=>Iz C C C (λw hK=>Cd (m:=l3.len) C C C FW)<|Cl C ?_ ?_));refine Ae 2 [1] (y<|λ_=>Ar [0,2,3] C<|Ak C<|N3 C C (eC Kw C C) (λw f d=>Ku n (C2 (n+1)) (kN n) w f d.vl G false l2 c2 d.res (d.mi G C).2.1 l3 _ _ hall3.2 oM d.f3) (λ_=>Bm.stab) ?_);rintro⟨ys,yb,yl,yc⟩ rya ryc ⟨hy,hyl,hy2⟩;dsimp only at hy hyl hy2 ⊢;refine Aa 1 (λ_=>Ar [0,2,3] C<|Bf 1 (λ_=>Ak C<|Aa 2 (λb5=>λ_=>?_)))
   rotate_left
   refine Ak C<|N3 C C (eC Kw C C) (λw f d=>Ku n (C2 (n+1)) (kN n) w f d.vl G false l2 c2 d.res (d.mi G C).2.1 l3 _ _ hall3.2 oM d.f3) (λ_=>Bm.stab) ?_;rintro⟨ys,yb,yl,yc⟩ rya ryc ⟨hy,hyl,hy2⟩;dsimp only at hy hyl hy2 ⊢;refine Aa 1 (λ_=>Ar [0,2,3] C<|Bf 1 (λ_=>Cl C ?_ ?_));refine Ae 2 [1] (y<|λ_=>Ar [0,2,3] C<|Ak C<|Aa 2 (λb5=>λ_=>?_))
   rotate_left
   refine Ak C<|Aa 2 (λb5=>λ_=>Ar [1,3,4] C<|Ak C<|Ae 2 [2] (y<|λ_=>?_))
   rotate_left
   replace h9:=B3 h9;refine Aa 3 (λ_=>Df<|Ae 10 [0,1] (y<|y<|λ_=>?_));obtain rfl:b2=true:=h9;exact A5 (λw f d=>Ao C (Ab C A2 d.k1 C)) (λw f d=>let ⟨f2,hM2,hF⟩:=Hn d;⟨(⟨41,t.ln,t.co,a.tx,0,oa,ks.length,oc⟩,ks,true,l2,c2),f2,C,⟨by show true=(b0||!AP (n+1) t (.cons h Z (.cons a ak (.cons b bk (.cons c Q q)))));rw[Ch Y,W,U,(show decide ((bk.len:Int)≤8)=!false from Dt h6),(show RJ bk=true from hok)];exact (QG hb),(λ_=>C),(λhz=>by cases hz),(show ks.length≤Z.sz+(ak.sz+(bk.sz+(Q.sz+q.sz+1)+1)+1)+1 by omega)⟩,hM2.exm,hM2.res,⟨.inl hF,tQ⟩⟩);refine Aa 11 (λ_=>Df<|Ae 10 [0,1] (y<|y<|λ_=>?_));obtain rfl:r2=.nil:=Fo.len0 (by have K:decide (((j+2:Nat):Int)<((q.len+1+1+1:Nat):Int))=false:=h8;have:=dF K;omega);exact A5 (λw f d=>Ao C (Ab C A2 d.k1 C)) (λw f d=>let ⟨f2,hM2,hF⟩:=Hn d;⟨(⟨41,t.ln,t.co,a.tx,0,oa,ks.length,oc⟩,ks,b2,l2,c2),f2,C,⟨by show b2=(b0||!AP (n+1) t (.cons h Z (.cons a ak (.cons b bk (.cons c Q q)))));rw[Ch Y,W,U,(show decide ((bk.len:Int)≤8)=!false from Dt h6),(show RJ bk=true from hok)];exact (Re hb),(λ_=>C),(λhz=>by rw[Lu Y,← hac hz];have K:=hcn [];rw[List.append_nil] at K;exact K),(show ks.length≤Z.sz+(ak.sz+(bk.sz+(Q.sz+q.sz+1)+1)+1)+1 by omega)⟩,hM2.exm,hM2.res,⟨.inl hF,tQ⟩⟩);refine Aa 4 (λ_=>Ap 37 C C (λh3=>?_) (λh3=>?_));refine Ae 28 [2] (y<|λ_=>CI (XX:=λ_ _=>False) C C (eC AD C C) (λw f d=>(B6 w f d.vl G b0 l0 c0 d.res (d.mi G C).2.1 t _ _ _).retP) (λ_=>Bm.stab) (λ_=>trivial) (λ_ _ _ _ _ h=>h.elim) ?_);rintro⟨D,F⟩ -;exact Ae 7 [1] (y<|λ_=>A5 (λw f d=>Ao C (Ab C A2 d.k1 C)) (λw f d=>⟨(EM,[],true,D,F),f,C,Ep (by show AP (n+1) t (.cons h Z r)=false;exact F3 Y hne),d.exm,d.res,⟨.inr (show (0:Int)≠41 by decide),tQ⟩⟩));have:=dF h3;omega;refine Aa 7 (λ_=>?_)
   · refine Ap 166 C C (λh3=>?_) (λh3=>?_)
     refine Aa 3 (λ_=>?_);rcases Fo.three r with ⟨a,ak,b,bk,c,Q,rfl⟩|hne
     have hszl:ak.sz+(bk.sz+(Q.sz+0+1)+1)+1≤100000:=by have K:Z.sz+(ak.sz+(bk.sz+(Q.sz+0+1)+1)+1)+1≤100000:=hszk;omega
     refine JN 0 C<|Hr 0 C ?_;rintro⟨L,O,k0a,k0c⟩ rfl;refine MY 1 C ?_;rintro⟨k1a,k1c⟩;refine MY 1 C ?_;rintro⟨k2a,k2c⟩;refine Aa 4 (λ_=>Ap 170 C C (λW=>?_) (λW=>?_));simp[Fo.len] at W;refine Ae 3 [102,0] (And.intro (by first|omega|(simp only[Fo.len];omega))<|y2<|λ_=>BO C C (eC Kv C C) (λw f d=>Ka w f d.vl a _ _ _ J.2.1.1.1)<|Aa 4 (λ_=>Ap 176 C C (λU=>?_) (λU=>?_)));replace U:=B5 U;refine Ae 5 [2] (y<|λ_=>CI (XX:=λ_ _=>False) C C (eC AD C C) (λw f d=>(B6 w f d.vl G b0 l0 c0 d.res (d.mi G C).2.1 t _ _ _).retP) (λ_=>Bm.stab) (λ_=>trivial) (λ_ _ _ _ _ h=>h.elim) ?_);rintro⟨D,F⟩ -;exact Ae 7 [1] (y<|λ_=>A5 (λw f d=>Ao C (Ab C A2 d.k1 C)) (λw f d=>⟨(EM,[],true,D,F),f,C,Ep (by show AP (n+1) t (.cons h Z (.cons a ak (.cons b bk (.cons c Q .nil))))=false;rw[HS Y h3,U];rfl),d.exm,d.res,⟨.inr (show (0:Int)≠41 by decide),tQ⟩⟩));replace U:=B3 U;refine Ae 24 [0,102,4,0] (y<|And.intro (by first|omega|(simp only[Fo.len];omega))<|y2<|y<|λ_=>Kz (λw f d=>(d.f7).1) λhlc=>?_);have hlc2:3≤lc:=hlc;refine BN C C (λw f d=>dB (i:=1) (j:=2) C C C FW dC oM)<|BI (λw f=>Bq w f (.cons b bk .nil) (DL (some (⟨L,O,none⟩:Addr)) lc 6) (lc-1)) (λw f d=>Bq.first (Bt.rest d.f7)) Bq.mono<|N3 C C (eC Kw C C) (λw f d=>Ku n (C2 (n+1)) (kN n) w f d.vl G b0 l0 c0 d.res (d.mi G C).2.1 (.cons b bk .nil) _ _ ⟨J.2.2.1,tQ⟩ (show bk.sz+0+1≤100000 by omega) d.f0) (λ_=>Bm.stab) ?_;rintro⟨xs,xb,xl,xc⟩ rxa rxc ⟨hx,hxl,hx2⟩;dsimp only at hx hxl hx2 ⊢;refine Ae 4 [0] (y<|λ_=>Cq [1,2] Aj (rd [0,2,3,4] (.br 1 (.br 5 (.br 6 (.rd 7 (.br 8 .fin .fin)) .fin) .fin) (.br 5 (.br 1 (.br 6 (.rd 7 (.br 8 .fin .fin)) .fin) .fin) .fin))) C kR<|Bf 3 (λ_=>Iz C C C (λw hK=>LH (i:=2) C C FW (show 2≤0+1+1+1 by decide))<|Cl C ?_ ?_));refine Ae 2 [0] (y<|λ_=>Ar [1,2] C<|Ak C<|BI (λw f=>Bq w f (.cons c Q .nil) (if lc=2 then (some (⟨L,O,none⟩:Addr)) else ((some (⟨L,O,none⟩:Addr))).map (·.add (2*6))) (lc-2)) (λw f d=>Bq.rest2 d.f8) Bq.mono<|N3 C C (eC Ec C C) (λw f d=>FT n (Cv (n+1)) (Xw n) w f d.vl G xb xl xc d.res (d.mi G C).2.1 (.cons c Q .nil) _ _ ⟨J.2.2.2.1,tQ⟩ (show Q.sz+0+1≤100000 by omega) d.f0) (λ_=>Bm.stab) ?_);rintro⟨es,yb,yl,yc⟩ rya ryc ⟨hy,hyl,hy2⟩;dsimp only at hy hyl hy2 ⊢;refine Xg (λw f=>Dc JE w f es rya ryc) Dc.mono (λw f d=>Hn d)<|Aa 1 (λ_=>?_)
     rotate_left
     refine Ak C<|BI (λw f=>Bq w f (.cons c Q .nil) (if lc=2 then (some (⟨L,O,none⟩:Addr)) else ((some (⟨L,O,none⟩:Addr))).map (·.add (2*6))) (lc-2)) (λw f d=>Bq.rest2 d.f8) Bq.mono<|N3 C C (eC Ec C C) (λw f d=>FT n (Cv (n+1)) (Xw n) w f d.vl G xb xl xc d.res (d.mi G C).2.1 (.cons c Q .nil) _ _ ⟨J.2.2.2.1,tQ⟩ (show Q.sz+0+1≤100000 by omega) d.f0) (λ_=>Bm.stab) ?_;rintro⟨es,yb,yl,yc⟩ rya ryc ⟨hy,hyl,hy2⟩;dsimp only at hy hyl hy2 ⊢;refine Xg (λw f=>Dc JE w f es rya ryc) Dc.mono (λw f d=>Hn d)<|Aa 1 (λ_=>Ar [1,2] C<|Ak C<|Ae 2 [0] (y<|λ_=>?_))
     rotate_left
     refine Aa 4 (λ_=>Ap 170 C C (λW=>?_) (λW=>?_));refine Ae 13 [2] (y<|λ_=>CI (XX:=λ_ _=>False) C C (eC AD C C) (λw f d=>(B6 w f d.vl G b0 l0 c0 d.res (d.mi G C).2.1 t _ _ _).retP) (λ_=>Bm.stab) (λ_=>trivial) (λ_ _ _ _ _ h=>h.elim) ?_);rintro⟨D,F⟩ -;exact Ae 7 [1] (y<|λ_=>A5 (λw f d=>Ao C (Ab C A2 d.k1 C)) (λw f d=>⟨(EM,[],true,D,F),f,C,Ep (by show AP (n+1) t (.cons h Z r)=false;exact Hi Y h3 hne),d.exm,d.res,⟨.inr (show (0:Int)≠41 by decide),tQ⟩⟩));exact absurd (by have K:((r.len:Int) != 3)=false:=W;have:=bne_eq_false_iff_eq.1 K;omega) hne;refine Aa 7 (λ_=>Ap 200 C C (λW=>?_) (λW=>?_));refine Aa 3 (λ_=>?_);rcases Fo.two r with ⟨a,ak,b,bk,rfl⟩|hne
     have hszl:ak.sz+(bk.sz+0+1)+1≤100000:=by have K:Z.sz+(ak.sz+(bk.sz+0+1)+1)+1≤100000:=hszk;omega
     refine JN 0 C<|Hr 0 C ?_;rintro⟨L,O,k0a,k0c⟩ rfl;refine MY 1 C ?_;rintro⟨k1a,k1c⟩;refine Aa 4 (λ_=>Ap 204 C C (λU=>?_) (λU=>?_));simp[Fo.len] at U;refine Ae 3 [101,0] (And.intro (by first|omega|(simp only[Fo.len];omega))<|y2<|λ_=>BO C C (eC Kv C C) (λw f d=>Ka w f d.vl a _ _ _ J.2.1.1.1)<|Aa 4 (λ_=>Ap 210 C C (λh6=>?_) (λh6=>?_)));replace h6:=B5 h6;refine Ae 5 [2] (y<|λ_=>CI (XX:=λ_ _=>False) C C (eC AD C C) (λw f d=>(B6 w f d.vl G b0 l0 c0 d.res (d.mi G C).2.1 t _ _ _).retP) (λ_=>Bm.stab) (λ_=>trivial) (λ_ _ _ _ _ h=>h.elim) ?_);rintro⟨D,F⟩ -;exact Ae 7 [1] (y<|λ_=>A5 (λw f d=>Ao C (Ab C A2 d.k1 C)) (λw f d=>⟨(EM,[],true,D,F),f,C,Ep (by show AP (n+1) t (.cons h Z (.cons a ak (.cons b bk .nil)))=false;rw[Jq Y h3 W,h6];rfl),d.exm,d.res,⟨.inr (show (0:Int)≠41 by decide),tQ⟩⟩));replace h6:=B3 h6;refine Ae 23 [0,101,4,0] (y<|And.intro (by first|omega|(simp only[Fo.len];omega))<|y2<|y<|λ_=>BI (λw f=>Bq w f (.cons b bk .nil) (DL (some (⟨L,O,none⟩:Addr)) lc 6) (lc-1)) (λw f d=>Bt.rest d.f5) Bq.mono<|BN C C (λw f d=>Cd (m:=1) C C C FW)<|N3 C C (eC Ec C C) (λw f d=>FT n (Cv (n+1)) (Xw n) w f d.vl G b0 l0 c0 d.res (d.mi G C).2.1 (.cons b bk .nil) _ _ J.2.2 (show bk.sz+0+1≤100000 by omega) d.f0) (λ_=>Bm.stab) ?_);rintro⟨xs,xb,xl,xc⟩ rxa rxc ⟨hx,hxl,hx2⟩;dsimp only at hx hxl hx2 ⊢;exact Ae 12 [0,0,1] (y<|y<|y<|λ_=>A5 (λw f d=>Ao C (Ab C A2 d.k1 C)) (λw f d=>⟨(⟨44,t.ln,t.co,a.tx,0,rxa,xs.length,rxc⟩,[],xb,xl,xc),f,C,⟨by show xb=(b0||!AP (n+1) t (.cons h Z (.cons a ak (.cons b bk .nil))));rw[Jq Y h3 W,h6];show xb=(b0||!(Cv (n+1) b bk));exact VI hx,(λh=>absurd h (show ¬(44:Int)=41 by decide)),(λ_=>(JY Y).symm),Nat.zero_le _⟩,d.exm,d.res,⟨.inr (by show (44:Int)≠41;decide),tQ⟩⟩));refine Aa 4 (λ_=>Ap 204 C C (λU=>?_) (λU=>?_));refine Ae 13 [2] (y<|λ_=>CI (XX:=λ_ _=>False) C C (eC AD C C) (λw f d=>(B6 w f d.vl G b0 l0 c0 d.res (d.mi G C).2.1 t _ _ _).retP) (λ_=>Bm.stab) (λ_=>trivial) (λ_ _ _ _ _ h=>h.elim) ?_);rintro⟨D,F⟩ -;exact Ae 7 [1] (y<|λ_=>A5 (λw f d=>Ao C (Ab C A2 d.k1 C)) (λw f d=>⟨(EM,[],true,D,F),f,C,Ep (by show AP (n+1) t (.cons h Z r)=false;exact HM Y h3 W hne),d.exm,d.res,⟨.inr (show (0:Int)≠41 by decide),tQ⟩⟩));exact absurd (by have K:((r.len:Int) != 2)=false:=U;have:=bne_eq_false_iff_eq.1 K;omega) hne;refine Aa 7 (λ_=>Ap 226 C C (λU=>?_) (λU=>?_));refine Aa 3 (λ_=>?_);rcases Fo.two r with ⟨a,ak,b,bk,rfl⟩|hne
     have hszl:ak.sz+(bk.sz+0+1)+1≤100000:=by have K:Z.sz+(ak.sz+(bk.sz+0+1)+1)+1≤100000:=hszk;omega
     refine JN 0 C<|Hr 0 C ?_;rintro⟨L,O,k0a,k0c⟩ rfl;refine MY 1 C ?_;rintro⟨k1a,k1c⟩;refine Aa 4 (λ_=>Ap 230 C C (λh6=>?_) (λh6=>?_));simp[Fo.len] at h6;refine Ae 3 [101,0] (And.intro (by first|omega|(simp only[Fo.len];omega))<|y2<|λ_=>BO C C (eC Kv C C) (λw f d=>Ka w f d.vl a _ _ _ J.2.1.1.1)<|Aa 3 (λ_=>Ap 237 C C (λh7=>?_) (λh7=>?_)));replace h7:=B5 h7;refine Ae 13 [2] (y<|λ_=>CI (XX:=λ_ _=>False) C C (eC AD C C) (λw f d=>(B6 w f d.vl G b0 l0 c0 d.res (d.mi G C).2.1 t _ _ _).retP) (λ_=>Bm.stab) (λ_=>trivial) (λ_ _ _ _ _ h=>h.elim) ?_);rintro⟨D,F⟩ -;exact Ae 7 [1] (y<|λ_=>A5 (λw f d=>Ao C (Ab C A2 d.k1 C)) (λw f d=>⟨(EM,[],true,D,F),f,C,Ep (by show AP (n+1) t (.cons h Z (.cons a ak (.cons b bk .nil)))=false;rw[Hw Y h3 W U,h7];rfl),d.exm,d.res,⟨.inr (show (0:Int)≠41 by decide),tQ⟩⟩));replace h7:=B3 h7;refine Ae 3 [100,0] (And.intro (by first|omega|(simp only[Fo.len];omega))<|y2<|λ_=>BO C C (eC HP C C) (λw f d=>KQ w f d.vl b bk _ _ d.f0)<|Aa 4 (λ_=>Ap 243 C C (λh8=>?_) (λh8=>?_)));refine Ae 5 [2] (y<|λ_=>CI (XX:=λ_ _=>False) C C (eC AD C C) (λw f d=>(B6 w f d.vl G b0 l0 c0 d.res (d.mi G C).2.1 t _ _ _).retP) (λ_=>Bm.stab) (λ_=>trivial) (λ_ _ _ _ _ h=>h.elim) ?_);rintro⟨D,F⟩ -;exact Ae 7 [1] (y<|λ_=>A5 (λw f d=>Ao C (Ab C A2 d.k1 C)) (λw f d=>⟨(EM,[],true,D,F),f,C,Ep (by show AP (n+1) t (.cons h Z (.cons a ak (.cons b bk .nil)))=false;rw[Hw Y h3 W U,h7,(show FY b bk=_ from E1 h8)];rfl),d.exm,d.res,⟨.inr (show (0:Int)≠41 by decide),tQ⟩⟩));refine Ae 23 [0,101,4,0] (y<|And.intro (by first|omega|(simp only[Fo.len];omega))<|y2<|y<|λ_=>BI (λw f=>Bq w f (.cons b bk .nil) (DL (some (⟨L,O,none⟩:Addr)) lc 6) (lc-1)) (λw f d=>Bt.rest d.f5) Bq.mono<|BN C C (λw f d=>Cd (m:=1) C C C FW)<|N3 C C (eC Ec C C) (λw f d=>FT n (Cv (n+1)) (Xw n) w f d.vl G b0 l0 c0 d.res (d.mi G C).2.1 (.cons b bk .nil) _ _ J.2.2 (show bk.sz+0+1≤100000 by omega) d.f0) (λ_=>Bm.stab) ?_);rintro⟨xs,xb,xl,xc⟩ rxa rxc ⟨hx,hxl,hx2⟩;dsimp only at hx hxl hx2 ⊢;exact Ae 12 [0,0,1] (y<|y<|y<|λ_=>A5 (λw f d=>Ao C (Ab C A2 d.k1 C)) (λw f d=>⟨(⟨45,t.ln,t.co,a.tx,0,rxa,xs.length,rxc⟩,[],xb,xl,xc),f,C,⟨by show xb=(b0||!AP (n+1) t (.cons h Z (.cons a ak (.cons b bk .nil))));rw[Hw Y h3 W U,h7,(show FY b bk=_ from E1 h8)];show xb=(b0||!(Cv (n+1) b bk));exact VI hx,(λh=>absurd h (show ¬(45:Int)=41 by decide)),(λ_=>(JY Y).symm),Nat.zero_le _⟩,d.exm,d.res,⟨.inr (by show (45:Int)≠41;decide),tQ⟩⟩));refine Aa 4 (λ_=>Ap 230 C C (λh6=>?_) (λh6=>?_));refine Ae 20 [2] (y<|λ_=>CI (XX:=λ_ _=>False) C C (eC AD C C) (λw f d=>(B6 w f d.vl G b0 l0 c0 d.res (d.mi G C).2.1 t _ _ _).retP) (λ_=>Bm.stab) (λ_=>trivial) (λ_ _ _ _ _ h=>h.elim) ?_);rintro⟨D,F⟩ -
     exact Ae 7 [1] (y<|λ_=>A5 (λw f d=>Ao C (Ab C A2 d.k1 C)) (λw f d=>⟨(EM,[],true,D,F),f,C,Ep (by show AP (n+1) t (.cons h Z r)=false;exact HR Y h3 W U hne),d.exm,d.res,⟨.inr (show (0:Int)≠41 by decide),tQ⟩⟩));exact absurd (by have K:((r.len:Int) != 2)=false:=h6;have:=bne_eq_false_iff_eq.1 K;omega) hne;refine Aa 7 (λ_=>Ap 259 C C (λh6=>?_) (λh6=>?_));refine Aa 8 (λ_=>Ap 262 C C (λh7=>?_) (λh7=>?_));refine Ae 5 [2] (y<|λ_=>CI (XX:=λ_ _=>False) C C (eC AD C C) (λw f d=>(B6 w f d.vl G b0 l0 c0 d.res (d.mi G C).2.1 t _ _ _).retP) (λ_=>Bm.stab) (λ_=>trivial) (λ_ _ _ _ _ h=>h.elim) ?_);rintro⟨D,F⟩ -;exact Ae 7 [1] (y<|λ_=>A5 (λw f d=>Ao C (Ab C A2 d.k1 C)) (λw f d=>⟨(EM,[],true,D,F),f,C,Ep (by show AP (n+1) t (.cons h Z r)=false;rw[GM Y h3 W U h6];show ((r.len:Int)==1&&_)=false;rw[(E1 h7)];rfl),d.exm,d.res,⟨.inr (show (0:Int)≠41 by decide),tQ⟩⟩));refine Ae 12 [0] (y<|λ_=>N3 C C (eC Ec C C) (λw f d=>FT n (Cv (n+1)) (Xw n) w f d.vl G b0 l0 c0 d.res (d.mi G C).2.1 r _ _ J.2 oM d.f0) (λ_=>Bm.stab) ?_);rintro⟨xs,xb,xl,xc⟩ rxa rxc ⟨hx,hxl,hx2⟩;dsimp only at hx hxl hx2 ⊢;exact Ae 12 [0,0,1] (y<|y<|y<|λ_=>A5 (λw f d=>Ao C (Ab C A2 d.k1 C)) (λw f d=>⟨(⟨46,t.ln,t.co,[],0,rxa,xs.length,rxc⟩,[],xb,xl,xc),f,C,⟨by show xb=(b0||!AP (n+1) t (.cons h Z r));rw[GM Y h3 W U h6];show xb=(b0||!((r.len:Int)==1&&_));rw[(E1 h7)];exact hx,(λh=>absurd h (show ¬(46:Int)=41 by decide)),(λ_=>(JY Y).symm),Nat.zero_le _⟩,d.exm,d.res,⟨.inr (by show (46:Int)≠41;decide),tQ⟩⟩));refine Ae 5 [2] (y<|λ_=>CI (XX:=λ_ _=>False) C C (eC AD C C) (λw f d=>(B6 w f d.vl G b0 l0 c0 d.res (d.mi G C).2.1 t _ _ _).retP) (λ_=>Bm.stab) (λ_=>trivial) (λ_ _ _ _ _ h=>h.elim) ?_);rintro⟨D,F⟩ -;exact Ae 6 [1] (y<|λ_=>A5 (λw f d=>Ao C (Ab C A2 d.k1 C)) (λw f d=>⟨(EM,[],true,D,F),f,C,Ep (by show AP (n+1) t (.cons h Z r)=false;rw[GM Y h3 W U h6];rfl),d.exm,d.res,⟨.inr (show (0:Int)≠41 by decide),tQ⟩⟩))
     all_goals
       refine Ar [1,2] C<|Ak C<|Aa3 0 C C IM C C C C C (news:=es.flatMap JE) (λw f d=>Dc.hY d.f0) (KC 6 (λ_=>C) _) (iM _) (λ_ _=>C) (by have h98:xs.length≤1:=hxl;have K:es.length≤1:=hyl;omega) (by have h98:xs.length≤1:=hxl;have K:es.length≤1:=hyl;omega) λoa2 oc2=>Aa 1 (λ_=>Ar [1,2] C<|Bf 1 (λ_=>Ak C<|Ae 2 [0] (y<|λ_=>Ar [1,2] C<|BG ?_)));exact Ae 9 [0,1] (y<|y<|λ_=>A5 (λw f d=>Ao C (Ab C A2 d.k1 C)) (λw f d=>⟨(⟨43,t.ln,t.co,a.tx,0,oa2,xs.length+es.length,oc2⟩,[],yb,yl,yc),f,C,⟨by show yb=(b0||!AP (n+1) t (.cons h Z (.cons a ak (.cons b bk (.cons c Q .nil)))));rw[HS Y h3,U];show yb=(b0||!(C2 (n+1) b bk&&Cv (n+1) c Q));exact eJ hx hy,(λh=>absurd h (show ¬(43:Int)=41 by decide)),(λ_=>(JY Y).symm),Nat.zero_le _⟩,d.exm,d.res,⟨.inr (by show (43:Int)≠41;decide),tQ⟩⟩))
   all_goals
     refine Ar [1,3,4] C<|Ak C<|Dd 1 0 C C IM C C C C C C C C (λ_ _=>C) oM oM λoa2 oc2=>Aa 1 (λ_=>Ar [1,3,4] C<|Bf 1 (λ_=>Ak C<|Ae 2 [2] (y<|λ_=>Ar [1,3,4] C<|BG ?_)));exact Aa 7 (And.intro ⟨oM,oM⟩<|λ_=>Ce ((j+1,r2,yb,yl,yc,ks++[⟨42,t2.ln,t2.co,h3.tx,0,rya,ys.length,ryc⟩],acc++[(h3.tx,a.tx,j,ys.length)],oa2,oc2)) (show r2.len<r2.len+1 from Nat.lt_succ_self _) ⟨show j+1+r2.len=q.len+1 by omega,Pa hb (by rw[(show L5 (n+1) t2 (.cons h3 hk3 l3)=l3.allB (C2 (n+1)) by rw[IB,h10,(show decide ((l3.len+1:Nat)≤(9:Int))=!false from Dt h12),(E1 h13)];rfl)];exact hy),show r2.sz≤Q.sz+q.sz+1 by omega,hr2.2,(by show (ks++[_]).length≤bk.len+(j+1);simp;omega),wE hcn C,(λhz=>by rw[List.append_assoc,hy2 hz];exact hac C)⟩ lE (λw f d=>⟨_,(by have e:(ks++[(⟨42,t2.ln,t2.co,h3.tx,0,rya,ys.length,ryc⟩:NR)]).length=ks.length+1:=(by simp);dsimp only;rw[e,BR];exact d.less (sD (sD (sK (sK (sK sZ))))) (.cons _ sR) nE (mR [5]))⟩))

theorem cS(w:wO)(f:Fq)(hv:Vl w f)(src:lU)(hsl:src.length≤60000) :
   AX prog 10 #[S src] w (AU (α:=List (NR×List NR)×oA×Nat×Int×Int×Int) (λy=>.tuple #[.slice y.2.1 (y.1.map Prod.fst).length y.2.2.1,.agg #[.int .i64 y.2.2.2.1,.int .i64 y.2.2.2.2.1],.int .i64 y.2.2.2.2.2]) (λy=>PgQ src y.1 y.2.2.2.2.2∧iQ y.1) (λy=>[λw f=>Dc JE w f (y.1.map Prod.fst) y.2.1 y.2.2.1,λw f=>RH w f y.1]) w f):=by
 refine Ed [] func10 C C C (Be hv tQ tQ)<|Aa 10 (λb1=>λ_=>CR C C (eC qX C C) (λw f d=>tscan w f d.vl src hsl) (λx=>⟨Dc.mono,tQ⟩) ?_);rintro⟨L,la,lc,p1,p2,e⟩ hsq;dsimp only at hsq ⊢;refine Ae 17 [0] (λb2=>y<|λ_=>?_)
 · refine Ap 23 C C (λh1=>?_) (λh1=>?_)
   refine Aa 2 (λ_=>?_);obtain⟨rfl,her⟩:e=10∧∃p:Ps,EG src=.error (p.1,p.2,10):=hsq.elim (λh=>absurd h.1 (LU h1)) id;exact Cq [0] Aj (rd [0,1,2] (.br 3 (.rd 4 .fin) .fin)) C kR<|By 3 [0] (y<|λ_=>Ak C<|Ae 2 [1] (y<|λ_=>Ar [0] C<|Bf 1 (λ_=>BG<|Aa 3 (λ_=>A5 (λw f d=>Dy C (Af C) (Ab C Dx d.k1 C) (Af C)) (λw f d=>⟨([],none,0,p1,p2,10),f,C,⟨.inl ⟨C,her,C⟩,iQ.nil⟩,d.exm,⟨Dc.nil _ _ _ _,nE,tQ⟩⟩)))));refine Aa 4 (λ_=>?_);obtain⟨he0,⟨lp,K,G⟩,htx⟩:e=0∧_:=hsq.elim id (λh=>by have J:(e != 0)=false:=h1;rw[h.1] at J;cases J);have hlpo:=Nn K;have hLl:L.length≤100000:=by have J:=congrArg List.length G;simp only[List.length_map] at J;omega
   have O:=ft_ok G hlpo.2 htx;refine Aa 8 (λb3=>λ_=>uH 0 C C<|mmi (λb=>b=b3) (L7 84 b3 la L.length lc 0 false 0 0) (λb h=>.inr h) (λw f h=>h.2) L7.stab<|Aa 2 (λ_=>CI (XX:=λ_ _=>False) C C (eC Zw C C) (λw f d=>(tsome (L.length+1) w f d.vl b3 L la lc 0 0 0 0 hLl dC (Nat.zero_le _) oM d.res (d.mi b3 C).2.1 d.f0).retP) (λ_=>L7.stab) (λ_=>⟨Bq.mono,tQ⟩) (λ_ _ _ _ _ h=>h.elim) ?_));rintro⟨i2,D,oa,oc,cl,bd,l5,c5⟩ hq;dsimp only at hq ⊢;refine Aa 13 (λ_=>BN C C (λw f d=>Ai C H8 d.res C)<|Aa 2 (λ_=>Ap 37 C C (λh2=>?_) (λh2=>?_)));refine Aa 2 (λ_=>?_);obtain rfl:bd=true:=h2;have hno:=(hq.bad).2;refine RL (λw=>AS w b3 [.slice la L.length lc,.int .i64 i2,.bool true,.int .i64 l5,.int .i64 c5] 84) (λw f h _=>h) [0] Aj (rd [0,1,2,3,4] (.br 5 (.rd 6 .fin) .fin)) C kR kR kR (λ_ _ _ _ _ h=>h)<|Bf 3 (λ_=>Iz C C C (λw hK=>C4 C Dx hK.2.2 C)<|Bf 1 (λ_=>Ak C<|Ae 2 [1] (y<|λ_=>Bv [0] (λw f h _=>h) C (λ_ h=>h)<|Bf 1 (λ_=>BG<|Aa 3 (λ_=>?_)))));exact A5 (λw f d=>Dy C (Af C) (Ab C Dx d.k1 C) (Af C)) (λw f d=>⟨([],none,0,l5,c5,10),f,C,⟨.inr ⟨L,lp,K,G,O,.inl ⟨fS hno,C,C⟩⟩,iQ.nil⟩,d.exm,⟨Dc.nil _ _ _ _,nE,tQ⟩⟩);refine Aa 5 (λ_=>?_);obtain rfl:bd=false:=h2;obtain⟨hi2,hrs⟩:=hq.ok;have hsm:=kA hrs;refine Aa 2 (λ_=>CR C C (eC tK C C) (λw f d=>topen w f d.vl L la lc hLl d.f1) (λx=>trivial) ?_);rintro⟨o1,o2⟩ -;dsimp only;refine Ae 13 [0] (λb4=>y<|λ_=>Ap 47 C C (λh3=>?_) (λh3=>?_));exact Aa 2 (λ_=>Cq [0,1] Aj (.rd 0 (.rd 1 (.br 2 (.rd 3 .fin) .fin))) C kR<|By 2 [0] (y<|λ_=>Ak C<|Ae 2 [2] (y<|λ_=>Ar [0,1] C<|Bf 1 (λ_=>BG<|Aa 3 (λ_=>A5 (λw f d=>Dy C (Af C) (Ab C Dx d.k2 C) (Af C)) (λw f d=>⟨([],none,0,o1,o2,10),f,C,⟨.inr ⟨L,lp,K,G,O,.inl ⟨hsm.elim (λh=>absurd h.1 (LU h3)) (λh=>h.2),C,C⟩⟩,iQ.nil⟩,d.exm,⟨Dc.nil _ _ _ _,nE,tQ⟩⟩))))));refine Aa 4 (λ_=>?_);have Z:A7 L [] .nil=.ok D:=hsm.elim (λh=>h.2) (λh=>absurd (bne_eq_false_iff_eq.1 h3) h.1);have hfsz:D.sz≤0+0+L.length:=Sy L [] .nil D Z;obtain⟨Q,hflen⟩:=Ov O hLl Z;refine Aa 13 (λb5=>λ_=>uH 0 C C<|mmi (λb=>b=b5) (Bm 92 b5 false 0 0) (λb h=>.inr h) (λw f h=>h.2) Bm.stab<|Aa 5 (λ_=>LY 94 6 ?_))
   refine DK (α:=Nat×Fo×Bool×Int×Int×List (NR×List NR)×oA×Nat) (λx=>x.2.1.len) (λx=>x.1+x.2.1.len=D.len∧(x.2.2.1||!x.2.1.allB (AP 200))=(false||!D.allB (AP 200))∧x.2.1.all (DP 200)∧Kn x.2.2.2.2.2.1+x.2.1.sz≤D.sz∧(x.2.2.2.2.2.1.map Prod.fst).length=x.1∧(x.2.2.1=false→(x.2.2.2.2.2.1.flatMap λp=>Q8 p.1 p.2)++Z6 x.2.1=Z6 D)∧(∀p∈x.2.2.2.2.2.1,p.1.op=41→p.1.n=p.2.length)) (λx=>(E5 3 (.pointer (some ⟨b1,0,none⟩)) 9 (.slice oa D.len oc) 13 (.pointer (some ⟨b5,0,none⟩)) 14 (.slice x.2.2.2.2.2.2.1 (x.2.2.2.2.2.1.map Prod.fst).length x.2.2.2.2.2.2.2) 15 (.int .i64 (x.1:Int)))) (λx=>⟨λ_=>False,λb=>b=b5,Bm 92 b5 x.2.2.1 x.2.2.2.1 x.2.2.2.2.1,w,f⟩) (λx=>[⟨b1,[.int .i64 0,.int .i64 0],41,true⟩]) (λx=>[⟨94,6,x.2.2.2.2.2.2.1,x.2.2.2.2.2.2.2,(x.2.2.2.2.2.1.map Prod.fst).length,(x.2.2.2.2.2.1.map Prod.fst).flatMap JE⟩]) (λx=>[]) (λx=>[λw f=>Bt w f oa x.1 x.2.1,λw f=>RH w f x.2.2.2.2.2.1]) ((0,D,false,0,0,[],none,0)) ⟨Nat.zero_add _,C,Q,(by show 0+D.sz≤D.sz;omega),C,(λ_=>C),nE⟩ lE (λw f d=>(d.more (B':=[]) (F':=[λw f=>Bt w f oa 0 D,λw f=>RH w f []]) nE (AR.mem ⟨Bq.at d.f0,nE,tQ⟩) (Au.mem ⟨Bt.mono,RH.mono,tQ⟩)).less (sD (sD (sK sZ))) sR nE (mR [0,1])) ?_;rintro⟨i,r,b2,l2,c2,F,na,nc⟩ ⟨hi,hb,hrd,hts,hnl,hcn,U⟩;dsimp only at hi hb hrd hts hnl hcn U ⊢;refine Aa 8 (λ_=>Ap 55 C C (λh4=>?_) (λh4=>?_));refine Aa 3 (λ_=>BN C C (λw f d=>Ai C H8 d.res C)<|Aa 4 (λ_=>Ap 61 C C (λW=>?_) (λW=>?_)));replace W:=B5 W;refine Aa 5 (λ_=>?_);have hil:i<D.len:=by have:=dT h4;omega
   obtain⟨t,k,r,rfl⟩:=Fo.cases1 r oM;have hi3:i+(r.len+1)=D.len:=hi;obtain rfl:b2=false:=W;have hrz:Kn F+(k.sz+r.sz+1)≤D.sz:=hts;refine Hr 0 C ?_;rintro⟨eb,eo,ka,kc⟩ rfl;refine Ae 7 [100,0] (And.intro oM<|y2<|λ_=>CI (XX:=λ_ _=>False) C C (eC sH C C) (λw f d=>(ttop 199 w f d.vl b5 false l2 c2 d.res (d.mi b5 C).2.1 t k _ _ hrd.1 oM d.f0).retP) (λ_=>Bm.stab) (λy=>⟨bW,tQ⟩) (λ_ _ _ _ _ h=>h.elim) ?_);rintro⟨x,Y,xb,xl,xc⟩ hx;dsimp only at hx ⊢;exact Aa 1 (λb6=>λ_=>Dd 0 0 C C IM C C C C C C C C (λ_ _=>C) oM oM λoa2 oc2=>Aa 9 (And.intro ⟨oM,oM⟩<|λ_=>Ce ((i+1,r,xb,xl,xc,F++[(x,Y)],oa2,oc2)) (show r.len<r.len+1 from Nat.lt_succ_self _) ⟨show i+1+r.len=_ by omega,Pa hb hx.1,hrd.2,(by show Kn (F++[(x,Y)])+r.sz≤D.sz;rw[Z3];show Kn F+(Y.length+0)+r.sz≤D.sz;have J:=hx.2.2.2;omega),(by show ((F++[(x,Y)]).map Prod.fst).length=i+1;simp at hnl ⊢;exact hnl),(λhz=>by show (F++[(x,Y)]).flatMap _++Z6 r=_;rw[List.flatMap_append,List.append_assoc,show [(x,Y)].flatMap (λp=>Q8 p.1 p.2)=Q8 x Y from List.append_nil _,hx.2.2.1 hz];exact hcn C),(λp hp=>(List.mem_append.1 hp).elim (U p) (λhp=>by rcases List.mem_singleton.1 hp with rfl;exact hx.2.1))⟩ ((by have e:((F++[(x,Y)]).map Prod.fst)=F.map Prod.fst++[x]:=(by simp);dsimp only;rw[e,List.length_append];exact Av lE C)) (λw f d=>⟨_,(by have e:((F++[(x,Y)]).map Prod.fst)=F.map Prod.fst++[x]:=(by simp);dsimp only;rw[e,List.length_append,BR];exact (d.more (B':=[]) (F':=[λw f=>RH w f (F++[(x,Y)])]) nE (AR.mem ⟨RH.snoc d.f4 d.f0,tQ⟩) (Au.mem ⟨RH.mono,tQ⟩)).less (sD (sK sZ)) sR nE (mR [3,0]))⟩)));replace W:=B3 W;refine Aa 3 (λ_=>Df<|Aa 8 (λ_=>BN C C (λw f d=>Ai C H8 d.res C)<|Aa 2 (λ_=>nW 76 true C C W ?_)))
   rotate_left
   refine Aa 11 (λ_=>Df<|Aa 8 (λ_=>BN C C (λw f d=>Ai C H8 d.res C)<|Aa 2 (λ_=>Ap 76 C C (λW=>?_) (λW=>?_))))
   rotate_left
   refine Ae 13 [0] (y<|λ_=>?_);obtain rfl:b2=false:=W;obtain rfl:r=.nil:=Fo.len0 (by have:=dF h4;omega);have hfa:D.allB (AP 200)=true:=by have J:false=!D.allB (AP 200):=Re hb;cases h8:D.allB (AP 200) with|true=>rfl|false=>rw[h8] at J;cases J
   exact A5 (λw f d=>Dy C (Af C) (Ab C Dx d.k0 C) (Af C)) (λw f d=>let ⟨f2,hM2,hF⟩:=Hn d;⟨(F,na,nc,0,0,0),f2,C,⟨.inr ⟨L,lp,K,G,O,.inr ⟨D,Z,Q,.inr ⟨hfa,C,(List.append_nil _).symm.trans (hcn C)⟩⟩⟩,U,(show Kn F≤100000 by have J:Kn F+0≤D.sz:=hts;omega),(show F.length≤100000 by have J:(F.map Prod.fst).length=F.length:=List.length_map _;omega)⟩,hM2.exm,⟨hF,hM2.fact (i:=1) C,tQ⟩⟩)
   all_goals
     refine Aa 2 (λ_=>?_);obtain rfl:b2=true:=W;refine RL (λw=>AS w b5 [.bool true,.int .i64 l2,.int .i64 c2] 92) (λw f h _=>h) [] Aj (rd [0,1,2,3,4] (.br 5 (.rd 6 .fin) .fin)) C kR kR kR (λ_ _ _ _ _ h=>h)<|Bf 3 (λ_=>Iz C C C (λw hK=>C4 C Dx hK.2.2 C)<|Bf 1 (λ_=>Ak C<|Ae 2 [0] (y<|λ_=>Bv [] (λw f h _=>h) C (λ_ h=>h)<|Bf 1 (λ_=>BG<|Aa 3 (λ_=>?_)))));have hfa:D.allB (AP 200)=false:=by have J:true=!D.allB (AP 200):=QG hb;cases h8:D.allB (AP 200) with|false=>rfl|true=>rw[h8] at J;cases J
     exact A5 (λw f d=>Dy C (Af C) (Ab C Dx d.k0 C) (Af C)) (λw f d=>⟨([],none,0,l2,c2,10),f,C,⟨.inr ⟨L,lp,K,G,O,.inr ⟨D,Z,Q,.inl ⟨hfa,C,C⟩⟩⟩,iQ.nil⟩,d.exm,⟨Dc.nil _ _ _ _,nE,tQ⟩⟩)

theorem rY(w:wO)(f:Fq)(hv:Vl w f)(d:List (NR×List NR))(na:oA)(nc:Nat)(hN:iQ d)(hF1:Dc JE w f (d.map Prod.fst) na nc)(hF2:RH w f d) :
   AX prog 12 #[.slice na (d.map Prod.fst).length nc] w (AU (α:=oA×Nat) (λy=>.slice y.1 (Gg++(d.flatMap λp=>Q8 p.1 p.2)).length y.2) (λ_=>True) (λy=>[λw f=>Dc jI w f (Gg++(d.flatMap λp=>Q8 p.1 p.2)) y.1 y.2]) w f):=by
 obtain⟨hn41,htot,W⟩:=hN;have hnsl:(d.map Prod.fst).length≤100000:=by rw[List.length_map];exact W
 refine Ed [λw f=>Dc JE w f (d.map Prod.fst) na nc,λw f=>RH w f d] func12 C C C (Be hv ⟨hF1,hF2,tQ⟩ ⟨Dc.mono,RH.mono,tQ⟩)<|Aa 26 (λb1=>λ_=>yT 0 4 8 C C C dC ?_);refine DK (α:=Nat×List Cn×oA×Nat) (λx=>(d.map Prod.fst).length-x.1) (λx=>x.1≤(d.map Prod.fst).length∧x.2.1++((d.drop x.1).flatMap λp=>Q8 p.1 p.2)=Gg++(d.flatMap λp=>Q8 p.1 p.2)) (λx=>(E3 0 (.slice na (d.map Prod.fst).length nc) 3 (.slice x.2.2.1 x.2.1.length x.2.2.2) 4 (.int .i64 (x.1:Int)))) (λx=>X0 w f) (λx=>[]) (λx=>[⟨54,4,x.2.2.1,x.2.2.2,x.2.1.length,x.2.1.flatMap jI⟩]) (λx=>[]) (λx=>[λw f=>Dc JE w f (d.map Prod.fst) na nc,λw f=>RH w f d]) ((0,Gg,some ⟨b1,0,none⟩,8)) ⟨Nat.zero_le _,C⟩ lE (λw f F=>F.less sR sR nE (mR [0,1])) ?_;rintro⟨i,acc,oa,oc⟩ ⟨hi,K⟩;dsimp only at hi K ⊢;have hal:acc.length≤100008:=by have h9:=congrArg List.length K;rw[List.length_append,List.length_append] at h9;have h8:=Qp d;have h7:Gg.length=8:=rfl;omega
 refine Aa 9 (λ_=>Ap 20 C C (λY=>?_) (λY=>?_));refine Aa 7 (λ_=>?_);have hil:i<(d.map Prod.fst).length:=by have:=dT Y;omega
 obtain⟨p0,hp⟩:∃p,d[i]?=some p:=⟨_,List.getElem?_eq_getElem (by simpa using hil)⟩;obtain⟨⟨O,Z,xco,G,xnm,xa,xn,xc⟩,J⟩:=p0;have hpx:(d.map Prod.fst)[i]?=some ⟨O,Z,xco,G,xnm,xa,xn,xc⟩:=by rw[List.getElem?_map,hp];rfl
 refine Hh (α:=Nat×Nat) (λx=>na=some ⟨x.1,x.2,none⟩) (λx=>[⟨x.1,x.2+i*6,[.int .i64 O,.int .i64 Z,.int .i64 xco,S G,.int .i64 xnm,.slice xa xn xc]⟩]) (λx=>[]) (λw f F=>let ⟨b,off,Y,Q⟩:=Dc.get 6 (λ_=>C) F.f0 hpx;⟨(b,off),Y,(oE Q),λ_ h=>by cases h⟩) (λx=>Au.mem tQ) ?_;rintro⟨xb,xq⟩ rfl;refine Ae 9 [100,0] (And.intro oM<|y2<|λ_=>Ap 28 C C (λQ=>?_) (λQ=>?_));exact Aa 10 (And.intro ⟨oM,oM⟩<|λ_=>Ce ((i+1,acc,oa,oc)) (show (d.map Prod.fst).length-(i+1)<(d.map Prod.fst).length-i by omega) ⟨show i+1≤_ by omega,(by rw[← K];show acc++(d.drop (i+1)).flatMap _=acc++(d.drop i).flatMap _;rw[Jp hp,List.flatMap_cons,tU Q];rfl)⟩ lE (λw f F=>⟨_,F.less .slnil sR nE (mR [0,1])⟩));refine Aa 14 (λ_=>?_);have hop:O=41:=bne_eq_false_iff_eq.1 Q;have hxn:xn=J.length:=hn41 _ (List.mem_of_getElem? hp) hop;have hkt:=SJ (List.mem_of_getElem? hp);dsimp only at hkt;refine BI (λw f=>Dc JE w f J xa xc) (λw f F=>(F.f1 _ (List.mem_of_getElem? hp)).elim id (λh=>absurd hop h)) Dc.mono ?_;refine DK (α:=Nat×Nat×List Cn×oA×Nat) (λx=>J.length-x.1) (λx=>x.1≤J.length∧x.2.2.1++J8 G x.2.1 (J.drop x.1)=acc++J8 G 0 J∧x.2.1≤x.1) (λx=>(E5 0 (.slice (some ⟨xb,xq,none⟩) (d.map Prod.fst).length nc) 3 (.slice x.2.2.2.1 x.2.2.1.length x.2.2.2.2) 4 (.int .i64 (i:Int)) 5 (.int .i64 (x.2.1:Int)) 6 (.int .i64 (x.1:Int)))) (λx=>X0 w f) (λx=>[]) (λx=>[⟨54,4,x.2.2.2.1,x.2.2.2.2,x.2.2.1.length,x.2.2.1.flatMap jI⟩]) (λx=>[⟨xb,xq+i*6,[.int .i64 O,.int .i64 Z,.int .i64 xco,S G,.int .i64 xnm,.slice xa xn xc]⟩]) (λx=>[λw f=>Dc JE w f (d.map Prod.fst) (some ⟨xb,xq,none⟩) nc,λw f=>RH w f d,λw f=>Dc JE w f J xa xc]) ((0,0,acc,oa,oc)) ⟨Nat.zero_le _,C,Nat.le_refl _⟩ lE (λw f F=>F.less sR sR (λe h=>by rcases List.mem_cons.1 h with rfl|h;exact .head _;cases h) (mR [1,2,0])) ?_;rintro⟨k,n,D,oa,oc⟩ ⟨hk,L,hnk⟩;dsimp only at hk L hnk ⊢;have hal2:D.length≤200008:=by have h9:=congrArg List.length L;rw[List.length_append,List.length_append] at h9;have h8:=MF G J 0;omega
 refine Ae 13 [100,5] (And.intro oM<|y2<|λ_=>Ap 36 C C (λh3=>?_) (λh3=>?_));refine Aa 6 (λ_=>?_);have hkl:k<J.length:=by have:=dT h3;omega
 obtain⟨ye,hy⟩:∃v,J[k]?=some v:=⟨_,List.getElem?_eq_getElem hkl⟩;refine Hh (α:=Nat×Nat) (λx=>xa=some ⟨x.1,x.2,none⟩) (λx=>[⟨x.1,x.2+k*6,JE ye⟩]) (λx=>[]) (λw f F=>let ⟨b,off,Y,Q⟩:=Dc.get 6 (λ_=>C) F.f2 hy;⟨(b,off),Y,(oE Q),λ_ h=>by cases h⟩) (λx=>Au.mem tQ) ?_;rintro⟨yb,yq⟩ rfl;refine Ae 20 [101,5,100,0,0,0] (And.intro oM<|y2<|And.intro oM<|y2<|λb2=>y<|y<|λ_=>Ap 49 C C (λh4=>?_) (λh4=>?_));refine Aa 2 (λ_=>Cq [0] Aj (rd [0,1,2,3,4,5,6,7,8,9,10,11,12] (.br 13 (.br 14 (.rd 15 .fin) .fin) .fin)) C kR<|By 13 [0,101,3,0] (y<|And.intro oM<|y2<|y<|λ_=>Ak C<|Aa 2 (λb3=>λ_=>Ar [1] C<|Ak C<|Dd 0 0 C C qap50 C C C C C C C C (λ_ _=>C) oM oM λoa2 oc2=>Aa 1 (λ_=>Ar [1] C ?_))));exact Bf 1 (λ_=>BG<|Aa 13 (And.intro ⟨oM,oM⟩<|And.intro ⟨oM,oM⟩<|λ_=>Ce ((k+1,n+1,D++[(ye.tx,G,n,ye.n)],oa2,oc2)) (show J.length-(k+1)<J.length-k by omega) ⟨show k+1≤_ by omega,(by rw[← L,Jp hy,mS h4];show (D++[_])++_=_;rw[List.append_assoc];rfl),show n+1≤k+1 by omega⟩ ((by have e:(D++[((ye.tx,G,n,ye.n):Cn)]).length=D.length+1:=(by simp);dsimp only;rw[e];exact Av lE C)) (λw f F=>⟨_,(by have e:(D++[((ye.tx,G,n,ye.n):Cn)]).length=D.length+1:=(by simp);dsimp only;rw[e,BR];exact F.less (sD (sD sZ)) sR (λe h=>by rcases List.mem_cons.1 h with rfl|h;exact .tail _ (.head _);cases h) (mR [0,1,2]))⟩)));exact Aa 9 (And.intro ⟨oM,oM⟩<|λ_=>Ce ((k+1,n,D,oa,oc)) (show J.length-(k+1)<J.length-k by omega) ⟨show k+1≤_ by omega,(by rw[← L,Jp hy,rB h4]),show n≤k+1 by omega⟩ lE (λw f F=>⟨_,F.less (sD sZ) sR (λe h=>by rcases List.mem_cons.1 h with rfl|h;exact .tail _ (.head _);cases h) (mR [0,1,2])⟩));refine Aa 3 (λ_=>Df<|Aa 8 (And.intro ⟨oM,oM⟩<|λ_=>?_));have hkl:J.length≤k:=by have:=dF h3;omega
 exact Ce ((i+1,D,oa,oc)) (show (d.map Prod.fst).length-(i+1)<(d.map Prod.fst).length-i by omega) ⟨show i+1≤_ by omega,(by rw[← K];show D++(d.drop (i+1)).flatMap _=acc++(d.drop i).flatMap _;rw[Jp hp,List.flatMap_cons,mU Q,← List.append_assoc,← sB L hkl])⟩ lE (λw f F=>⟨_,F.less .slnil sR nE (mR [0,1])⟩);refine Aa 3 (λ_=>Df<|Aa 9 (λ_=>?_));obtain rfl:i=(d.map Prod.fst).length:=by have:=dF Y;omega
 have U:acc=Gg++(d.flatMap λp=>Q8 p.1 p.2):=by rw[← K,List.drop_eq_nil_of_le (by simp)];exact (List.append_nil _).symm
 exact A5 (Cb C C) (λw f F=>let ⟨f2,hM2,hF⟩:=Hn F;⟨(oa,oc),f2,(by rw[← U]),tQ,hM2.exm,⟨U▸hF,tQ⟩⟩)
theorem sA(w:wO)(f:Fq)(hv:Vl w f)(nds:Nd)(Z:oA)(nc:Nat)(hk41:nds.k41)(hnl:nds.len≤200000)(hcl:(Ip nds).length≤100000)(hN:Bc w f nds Z nc) :
   AX prog 11 #[.slice Z nds.len nc] w (AU (α:=oA×Nat) (λy=>.slice y.1 (Gg++Ip nds).length y.2) (λ_=>True) (λy=>[λw f=>Dc jI w f (Gg++Ip nds) y.1 y.2]) w f):=by
 refine Ed [λw f=>Bc w f nds Z nc] func11 C C C (Be hv ⟨hN,tQ⟩ ⟨Bc.mono,tQ⟩)<|Aa 28 (λb1=>λ_=>yT 0 4 8 C C C dC ?_);refine DK (α:=Nat×Nd×List Cn×oA×Nat) (λx=>x.2.1.len) (λx=>x.1+x.2.1.len=nds.len∧x.2.2.1++Ip x.2.1=Gg++Ip nds∧x.2.1.k41) (λx=>(E4 3 (.slice x.2.2.2.1 x.2.2.1.length x.2.2.2.2) 18 (.slice Z nds.len nc) 19 (.int .i64 (nds.len:Int)) 20 (.int .i64 (x.1:Int)))) (λx=>X0 w f) (λx=>[]) (λx=>[⟨53,4,x.2.2.2.1,x.2.2.2.2,x.2.2.1.length,x.2.2.1.flatMap jI⟩]) (λx=>[]) (λx=>[λw f=>Ct w f Z x.1 x.2.1]) ((0,nds,Gg,some ⟨b1,0,none⟩,8)) ⟨Nat.zero_add _,C,hk41⟩ lE (λw f D=>(D.more (B':=[]) (F':=[λw f=>Ct w f Z 0 nds]) nE (AR.mem ⟨Bc.at D.f0,tQ⟩) (Au.mem ⟨Ct.mono,tQ⟩)).less sR sR nE (mR [0])) ?_;rintro⟨i,r,acc,oa,oc⟩ ⟨hi,G,K⟩;dsimp only at hi G K ⊢;have hal:acc.length+(Ip r).length≤100008:=by have h9:=congrArg List.length G;rw[List.length_append,List.length_append] at h9;have h7:Gg.length=8:=rfl;omega
 refine Aa 6 (λ_=>Ap 21 C C (λh1=>?_) (λh1=>?_));refine Aa 6 (λ_=>?_);have hil:i<nds.len:=by have:=dT h1;omega
 obtain⟨L,O,Q,h,U,k2,r,rfl⟩:=Nd.cases1 r oM;have hi2:i+(r.len+1)=nds.len:=hi;refine Yy 0 C ?_;rintro⟨eb,eo,ka,kc⟩ rfl;refine Ae 15 [100,0,0,0] (And.intro oM<|y2<|λb2=>y<|y<|λ_=>Ap 26 C C (λh2=>?_) (λh2=>?_));exact Aa 9 (And.intro ⟨oM,oM⟩<|λ_=>Ce ((i+1,r,acc,oa,oc)) (show r.len<r.len+1 from Nat.lt_succ_self _) ⟨show i+1+r.len=nds.len by omega,(by rw[← G];show acc++Ip r=acc++Ip (.cons L O Q h U k2 r);rw[sO h2]),K.2⟩ lE (λw f D=>⟨_,D.less (sD sZ) sR nE (mR [1])⟩));refine Ae 17 [0] (y<|λ_=>?_);have hk2l:k2.len≤200000:=K.1 (bne_eq_false_iff_eq.1 h2);refine DK (α:=Nat×Nat×Nd×List Cn×oA×Nat) (λx=>x.2.2.1.len) (λx=>x.1+x.2.2.1.len=k2.len∧x.2.2.2.1++Ho h x.2.1 x.2.2.1=acc++Ho h 0 k2∧x.2.1≤x.1) (λx=>(E9 3 (.slice x.2.2.2.2.1 x.2.2.2.1.length x.2.2.2.2.2) 5 (.pointer (some ⟨b2,0,none⟩)) 6 (.int .i64 (x.2.1:Int)) 18 (.slice (some ⟨eb,eo,none⟩) nds.len nc) 19 (.int .i64 (nds.len:Int)) 20 (.int .i64 (i:Int)) 28 (.slice ka k2.len kc) 29 (.int .i64 (k2.len:Int)) 30 (.int .i64 (x.1:Int)))) (λx=>X0 w f) (λx=>[⟨b2,GQ L O Q h U ka k2.len kc,101,true⟩]) (λx=>[⟨53,4,x.2.2.2.2.1,x.2.2.2.2.2,x.2.2.2.1.length,x.2.2.2.1.flatMap jI⟩]) (λx=>[]) (λx=>[λw f=>Ct w f ka x.1 x.2.2.1,λw f=>Ct w f (some ⟨eb,eo,none⟩) (i+1) r]) ((0,0,k2,acc,oa,oc)) ⟨Nat.zero_add _,C,Nat.le_refl _⟩ lE (λw f D=>(D.more (B':=[]) (F':=[λw f=>Ct w f ka 0 k2]) nE (AR.mem ⟨Bc.at D.f0,tQ⟩) (Au.mem ⟨Ct.mono,tQ⟩)).less (sK sZ) sR nE (mR [0,2])) ?_;rintro⟨k,n,F,d,oa,oc⟩ ⟨hk,J,hnk⟩;dsimp only at hk J hnk ⊢;have hal2:d.length≤100008:=by have h9:=congrArg List.length J;simp only[List.length_append] at h9;have h8:(Ip (.cons L O Q h U k2 r)).length=(Ho h 0 k2).length+(Ip r).length:=(by rw[Wz h2,List.length_append]);omega
 refine Aa 6 (λ_=>Ap 31 C C (λh3=>?_) (λh3=>?_));refine Aa 6 (λ_=>?_);have hkl:k<k2.len:=by have:=dT h3;omega
 obtain⟨op3,ln3,co3,Y,nm3,k3,F,rfl⟩:=Nd.cases1 F oM;have hk4:k+(F.len+1)=k2.len:=hk;refine Yy 0 C ?_;rintro⟨eb3,eo3,ka3,kc3⟩ rfl;refine Ae 14 [100,0,0,0] (And.intro oM<|y2<|λb3=>y<|y<|λ_=>Ap 36 C C (λh4=>?_) (λh4=>?_));exact Ae 14 [0,1,0] (y<|y<|y<|λb4=>λ_=>Dd 0 0 C C zB C C C C C C C C (λ_ _=>C) oM oM λoa2 oc2=>Aa 14 (And.intro ⟨oM,oM⟩<|And.intro ⟨oM,oM⟩<|λ_=>Ce ((k+1,n+1,F,d++[(Y,h,n,k3.len)],oa2,oc2)) (show F.len<F.len+1 from Nat.lt_succ_self _) ⟨show k+1+F.len=k2.len by omega,(by rw[← J,eF h4];show (d++[_])++_=_;rw[List.append_assoc];rfl),show n+1≤k+1 by omega⟩ ((by have e:(d++[((Y,h,n,k3.len):Cn)]).length=d.length+1:=(by simp);dsimp only;rw[e];exact Av lE C)) (λw f D=>⟨_,(by have e:(d++[((Y,h,n,k3.len):Cn)]).length=d.length+1:=(by simp);dsimp only;rw[e,BR];exact D.less (sD (sD (sK sZ))) sR nE (mR [1,3]))⟩)));exact Aa 8 (And.intro ⟨oM,oM⟩<|λ_=>Ce ((k+1,n,F,d,oa,oc)) (show F.len<F.len+1 from Nat.lt_succ_self _) ⟨show k+1+F.len=k2.len by omega,(by rw[← J,gG h4]),show n≤k+1 by omega⟩ lE (λw f D=>⟨_,D.less (sD (sK sZ)) sR nE (mR [1,3])⟩));refine Aa 3 (λ_=>Df<|Aa 7 (And.intro ⟨oM,oM⟩<|λ_=>?_));obtain rfl:F=.nil:=Nd.len0 (by have:=dF h3;omega);have hk3:d=acc++Ho h 0 k2:=by rw[← J];exact (List.append_nil _).symm
 exact Ce ((i+1,r,d,oa,oc)) (show r.len<r.len+1 from Nat.lt_succ_self _) ⟨show i+1+r.len=nds.len by omega,(by rw[← G];show d++Ip r=acc++Ip (.cons L O Q h U k2 r);rw[Wz h2,hk3,List.append_assoc]),K.2⟩ lE (λw f D=>⟨_,D.less (sD sZ) sR nE (mR [1])⟩);refine Aa 3 (λ_=>Df<|Aa 9 (λ_=>?_));obtain rfl:r=.nil:=Nd.len0 (by have:=dF h1;omega);have W:acc=Gg++Ip nds:=by rw[← G];exact (List.append_nil _).symm
 exact A5 (Cb C C) (λw f D=>let ⟨f2,hM2,hF⟩:=Hn D;⟨(oa,oc),f2,(by rw[← W]),tQ,hM2.exm,⟨W▸hF,tQ⟩⟩)
end Go.Proofs.YtnojaendcldjpaaGreatDoor
namespace Go.SP
open Go.SW Go.RowKit
def Yl:Nat→Ty→Ty
 |0,k=>k
 |_+1,.nil=>.nil
 |n+1,.var _ r=>Yl n r
 |n+1,.con _ _ r=>Yl n r
theorem J2:∀{i:Nat}{k:Ty}{t:T1},k.get i=some t→Yl i k=t.cons (Yl (i+1) k)
 |0,.var n r,t,h=>by cases h;rfl
 |0,.con x k r,t,h=>by cases h;rfl
 |i+1,.var n r,t,h=>J2 (i:=i) (k:=r) h
 |i+1,.con x k r,t,h=>J2 (i:=i) (k:=r) h
 |0,.nil,t,h=>by cases h
 |i+1,.nil,t,h=>by cases h
theorem MJ:∀{i:Nat}{k:Ty},k.len≤i→Yl i k=.nil
 |0,.nil,_=>rfl
 |_+1,.nil,_=>rfl
 |0,.var _ r,h=>by simp[Ty.len] at h
 |0,.con _ _ r,h=>by simp[Ty.len] at h
 |i+1,.var _ r,h=>MJ (i:=i) (k:=r) (by simp only[Ty.len] at h;omega)
 |i+1,.con _ _ r,h=>MJ (i:=i) (k:=r) (by simp only[Ty.len] at h;omega)
theorem ZG{k:Ty}{t:T1}(h:k.get (k.len-1)=some t):GC (Yl (k.len-1) k)=t:=by
 have D:0<k.len:=by
   rcases Nat.eq_zero_or_pos k.len with d|d
   · cases k with
     |nil=>cases h
     |var _ r=>simp[Ty.len] at d
     |con _ _ r=>simp[Ty.len] at d
   · exact d
 rw[J2 h,MJ (by omega)];exact Nh t
variable {f:Fq}{xs:lV}{i n:Nat}{M:Nat→Prop}{a:oA}{T e:tI}{w w' w0:wO}
theorem lH{k:Ty}{t:T1}(h:k.get i=some t)(d:i+1<k.len):GC (Yl i k)=.con Ga (t.cons (GC (Yl (i+1) k)).one):=by
 obtain⟨u,hu⟩:=II d;rw[J2 h,J2 hu];exact KY t u _
theorem tC2'{tx:lU}{t u:T1}{c:Nat}:tC (.con tx (t.cons u.one)) a c=[.int .i64 1,.int .i64 0,S tx,.slice a 2 c]:=by
 have e:(t.cons u.one).len=2:=by simp[T1.len_cons,T1.one,Ty.len]
 unfold tC;rw[show (T1.con tx (t.cons u.one)).kids.len=2 from e];rfl
def TR(a:oA)(b:Nat):Prop:=rb a=some b
def Hy(T:tI)(a:oA)(c n:Nat)(xs:lV):wO→Fq→Prop:=λw _=>BQ w T 6 a c n xs
theorem BQ.same{size:Nat}{c:Nat}(h:BQ w e size a c n xs)(D:∀b,rb a=some b→w'.heap[b]?=w.heap[b]?):BQ w' e size a c n xs :=
 ⟨h.1,h.2.imp id λ⟨g,l,d,F,G⟩=>⟨g,l,d,(D g (by rw[d];rfl)).trans F,G⟩⟩
theorem Hy.stab{c:Nat}:ED (TR a) (Hy T a c n xs):=λ_ _ _ _ h _ d=>BQ.same h d
theorem IE.get{p:OX}{l:List OX}{c:Nat}(h:IE w f l a c)(d:l[i]?=some p):∃b off ka kc,a=some ⟨b,off,none⟩∧Cs w f b (off+i*6) (pC p ka kc)∧Al w f p.2.2.kids ka kc:=by
 obtain⟨_,b,xs,D,F,G⟩:=h;obtain⟨ka,kc,k1,k2⟩:=BS.get G F d;exact⟨b,0,ka,kc,D,k1,k2⟩
theorem Hy.done{c:Nat}{l:List OX}{f0:Fq}(F:Hy T a c l.length xs w f)(L:BS w f l xs)(O:C9 M w0 f0 w f)(Q:∀b,rb a=some b→w0.heap.size≤b∧f b=0)(G:0<l.length):∃f',C9 M w0 f0 w f'∧IE w f' l a c:=by
 rcases F.2 with ⟨_,hc,hz⟩|⟨b,q,U,J,h,_,hq,W⟩
 · omega
 · subst U
   obtain⟨Y,Z⟩:=Q b C
   have hF:HF w f w (λk=>if k=b then l.length*6 else f k):=λk=>⟨by
     show f k≤if k=b then _ else _
     split
     · rename_i e;subst e;rw[Z];exact Nat.zero_le _
     · exact Nat.le_refl _,λ_ _=>C⟩
   refine⟨_,O.done Y J.lt (l.length*6),h,b,xs,C,λj v K=>?_,BS.mono' hF _ _ L⟩;have D:=(List.getElem?_eq_some_iff.1 K).1;rw[F.1] at D;refine⟨by show 0+j<(if b=b then l.length*6 else f b);rw[if_pos C];omega,?_⟩;rw[Nat.zero_add,J.cell];have d:=K;rw[← W,List.getElem?_take,if_pos (by omega)] at d;exact d
theorem primM(h:Vl w f):AO ⟨λ_=>False,TR none,Hy T none 0 0 [],w,f⟩ w f [] [] [] [] :=
 {Be (Fs:=[]) h tQ tQ with
   res:=Fx w T 6
   stab:=Hy.stab
   mi:=λb d=>by cases d
   own:=λb d=>by cases d}
end Go.SP
namespace Go.SW
variable {σ:Ba}{x:Operand}{P:Program}{t t' ty:tI}{w:wO}
theorem eM{y:Operand}{a b:Bool}(D:P.underlying t=some .bool)(F:ev σ x=some (.bool a))(G:ev σ y=some (.bool b))(h:a=b):AK P σ (.binOp .neq t x y t') ty w (.bool false) w:=by
 subst h
 have e:(Op.equal t (.bool a) (.bool a)).run P w=.ok true w:=by
   show (Op.equalIn (Op.maxDepth-1+1) t _ _).run P w=_;simp[Op.equalIn,run_underlying D]
 exact λJ _ _ _ _ d=>by simp[execOp,d _ _ F,d _ _ G,eqGuard,binOp,e]
end Go.SW
namespace Go.SP
theorem GW:∀k:Ty,k.len≤k.size
 |.nil=>Nat.le_refl _
 |.var _ r=>Nat.succ_le_succ (GW r)
 |.con _ k r=>by show r.len+1≤k.size+r.size+1;have:=GW r;omega
theorem GY:∀{i:Nat}{k:Ty}{t:T1},k.get i=some t→t.kids.size<k.size
 |0,.var n r,t,h=>by cases h;exact Nat.succ_pos _
 |0,.con x k r,t,h=>by cases h;show k.size<k.size+r.size+1;omega
 |i+1,.var n r,t,h=>Nat.lt_succ_of_lt (GY (i:=i) (k:=r) h)
 |i+1,.con x k r,t,h=>by have:=GY (i:=i) (k:=r) h;show t.kids.size<k.size+r.size+1;omega
 |0,.nil,t,h=>by cases h
 |i+1,.nil,t,h=>by cases h
end Go.SP
namespace Go.Proofs.YtnojaendcldjpaaGreatDoor
open Go.SW Go.SP Go.RowKit Go.Proofs.Tryz
theorem xD(w:wO)(f:Fq)(d:Vl w f)(n:Int) :
   AX prog 20 #[.int .i64 n] w (AU (α:=Unit) (λ_=>tV (.var n) none 0) (λ_=>True) (λ_=>[]) w f):=by
 exact Ed [] func20 C C C (Be d tQ tQ)<|Ae 13 [0] (λb1=>y<|λ_=>mrU (λw f h=>Ao C (Ab C P0 h.k0 C)) C)
theorem tL(w:wO)(f:Fq)(d:Vl w f)(tx:lU)(n:Nat)(a:oA)(c:Nat) :
   AX prog 36 #[S tx,.slice a n c] w (AU (α:=Unit) (λ_=>.agg #[.int .i64 1,.int .i64 0,S tx,.slice a n c]) (λ_=>True) (λ_=>[]) w f):=by
 exact Ed [] func36 C C C (Be d tQ tQ)<|Ae 14 [0] (λb1=>y<|λ_=>mrU (λw f h=>Ao C (Ab C P0 h.k0 C)) C)
theorem It(w:wO)(f:Fq)(h:Vl w f)(tx:lU)(n:Nat)(a:oA)(c:Nat) :
   AX prog 19 #[S tx,.slice a n c] w (AU (α:=Unit) (λ_=>.agg #[.int .i64 1,.int .i64 0,S tx,.slice a n c]) (λ_=>True) (λ_=>[]) w f):=by
 exact Ed [] func19 C C C (Be h tQ tQ)<|Aa 9 (λb1=>λ_=>BO C C (eC rR C C) (λw f d=>tL w f d.vl tx n a c)<|Ae 4 [0] (y<|λ_=>mrU (λw f d=>Ao C (Ab C P0 d.k0 C)) C))
theorem jD(w:wO)(f:Fq)(hv:Vl w f)(l:Ty)(a:oA)(c:Nat)(hl:1≤l.len∧l.len≤10)(hT:Al w f l a c) :
   AX prog 37 #[.slice a l.len c] w (AU (α:=T1×oA×Nat) (λx=>tV x.1 x.2.1 x.2.2) (λx=>x.1=GC l) (λx=>[λw f=>Al w f x.1.kids x.2.1 x.2.2]) w f):=by
 refine Ed [λw f=>Al w f l a c] func37 C C C (Be hv ⟨hT,tQ⟩ ⟨Al.mono,tQ⟩)<|Aa 6 (λb1=>λ_=>?_);obtain⟨t0,F⟩:=II (k:=l) (i:=l.len-1) oM;have L:((l.len:Int)-1).toNat=l.len-1:=oM;refine Hh (α:=Nat×Nat×oA×Nat) (λx=>a=some ⟨x.1,x.2.1,none⟩) (λx=>[⟨x.1,x.2.1+((l.len:Int)-1).toNat*4,tC t0 x.2.2.1 x.2.2.2⟩]) (λx=>[λw f=>Al w f t0.kids x.2.2.1 x.2.2.2]) (λw f d=>let ⟨b,off,ka,kc,D,O,Q⟩:=Al.nth d.f0 F;⟨(b,off,ka,kc),D,(λe he=>by cases he with|head=>exact (by rw[L];exact O)|tail _ h=>cases h),AR.mem ⟨Q,tQ⟩⟩) (λx=>Au.mem ⟨Al.mono,tQ⟩) ?_;rintro⟨J,K,ka,kc⟩ rfl;refine Ae 21 [100,0,0] (And.intro ⟨oM,oM⟩<|And.intro oM<|y2<|λb2=>y<|And.intro ⟨oM,oM⟩<|λ_=>?_);refine DK (α:=Int×T1×oA×Nat) (λx=>(x.1+1).toNat) (λx=>x.1+1<l.len ∧ -1≤x.1∧x.2.1=GC (Yl (x.1+1).toNat l)) (λx=>(E4 0 (.slice (some ⟨J,K,none⟩) l.len c) 2 (.pointer (some ⟨b1,0,none⟩)) 3 (.pointer (some ⟨b2,0,none⟩)) 4 (.int .i64 x.1))) (λx=>X0 w f) (λx=>[⟨b2,tC x.2.1 x.2.2.1 x.2.2.2,34,true⟩,⟨b1,[.int .i64 0,.int .i64 0,.string ⟨#[]⟩,.slice none 0 0],34,true⟩]) (λx=>[]) (λx=>[]) (λx=>[λw f=>Al w f l (some ⟨J,K,none⟩) c,λw f=>Al w f x.2.1.kids x.2.2.1 x.2.2.2]) ((l.len:Int)-2,t0,ka,kc) ⟨show (l.len:Int)-2+1<l.len by omega,show -1≤(l.len:Int)-2 by omega,(by show t0=GC (Yl ((l.len:Int)-2+1).toNat l);rw[show ((l.len:Int)-2+1).toNat=l.len-1 by omega,ZG F])⟩ lE (λw f d=>d.less sR sR nE (mR [1,0])) ?_;rintro⟨z,u,ua,uc⟩ ⟨U,W,hu⟩;dsimp only at U W hu ⊢;refine Aa 7 (λ_=>Ap 15 C C (λD=>?_) (λD=>?_));refine Aa 5 (λ_=>?_);obtain⟨i,rfl⟩:∃i:Nat,z=(i:Int):=⟨z.toNat,by have:=dT D;omega⟩;obtain⟨t2,G⟩:=II (k:=l) (i:=i) oM;refine Hh (α:=Nat×Nat×oA×Nat) (λx=>(some ⟨J,K,none⟩:oA)=some ⟨x.1,x.2.1,none⟩) (λx=>[⟨x.1,x.2.1+i*4,tC t2 x.2.2.1 x.2.2.2⟩]) (λx=>[λw f=>Al w f t2.kids x.2.2.1 x.2.2.2]) (λw f d=>let ⟨b,off,ka,kc,D,O,Q⟩:=Al.nth d.f0 G;⟨(b,off,ka,kc),D,(oE O),AR.mem ⟨Q,tQ⟩⟩) (λx=>Au.mem ⟨Al.mono,tQ⟩) ?_;rintro⟨Y,Z,ka2,kc2⟩ h44;obtain⟨rfl,rfl⟩:J=Y∧K=Z:=by cases h44;exact⟨C,C⟩
 refine Cq [1] Aj (rd [0,1,2,3] (.br 4 (.br 5 (.br 6 (.br 7 .fin .fin) .fin) .fin) .fin)) C kR<|By 4 [100,0] (And.intro oM<|y2<|λ_=>Ak C<|Ae 2 [0] (y<|λ_=>Ar [1] C<|Ak C<|Aa 2 (λb3=>λ_=>Ar [2] C<|Ak C<|Di 0 C C ?_)));exact BI (λw f=>Al w f (t2.cons u.one) (some ⟨b3,0,none⟩) 2) (λw f d=>VE d.b0 d.f0 d.f2) Al.mono<|BO C C (eC DG C C) (λw f d=>It w f d.vl Ga 2 (some ⟨b3,0,none⟩) 2)<|Aa 1 (λ_=>Bv [1] Ef C (λ_ h=>.tail _ h)<|Ak C<|Ae 2 [0] (y<|λ_=>Bv [1] Ef C (λ_ h=>.tail _ h)<|BG<|Aa 7 (And.intro ⟨oM,oM⟩<|λ_=>Ce (((i:Int)-1,.con Ga (t2.cons u.one),some ⟨b3,0,none⟩,2)) (show ((i:Int)-1+1).toNat<((i:Int)+1).toNat by omega) ⟨show (i:Int)-1+1<l.len by omega,show -1≤(i:Int)-1 by omega,(by show T1.con Ga (t2.cons u.one)=GC (Yl ((i:Int)-1+1).toNat l);rw[show ((i:Int)-1+1).toNat=i by omega,lH G (by omega),hu,show ((i:Int)+1).toNat=i+1 by omega])⟩ lE (λw f d=>⟨_,(by dsimp only;rw[tC2'];exact d.less sR sR nE (mR [2,0]))⟩))));refine Aa 3 (λ_=>Df<|Ae 9 [0,1] (y<|y<|λ_=>?_));obtain rfl:z = -1:=by have:=dF D;omega
 exact A5 (λw f d=>Ao C (Ab C P0 d.k1 C)) (λw f d=>⟨(u,ua,uc),f,C,hu,d.exm,⟨d.f1,tQ⟩⟩)
theorem nG(w:wO)(f:Fq)(hv:Vl w f)(oa:oA)(oc:Nat)(l:List OX)(G:lV)(hP:Hy 36 oa oc l.length G w f)(hL:BS w f l G)(hf:∀b,TR oa b→f b=0)(D:List lU)(sa:oA)(sc:Nat)(hbig:l.length+D.length≤1000)(hN:Dc sC w f D sa sc)(d:Ty)(K:oA)(L:Nat)(hy:1≤d.len∧d.len≤10)(hY:Al w f d K L) :
   AX prog 21 #[.slice oa l.length oc,.slice sa D.length sc,.slice K d.len L] w (Ny (α:=oA×Nat×lV) (λx=>.slice x.1 (l.length+D.length) x.2.1) (λ_=>True) (TR oa) (λx=>TR x.1) (λx=>Hy 36 x.1 x.2.1 (l.length+D.length) x.2.2) (λx=>[λw f=>BS w f (l++D.map (λnm=>(nm,(d.len:Int)-1,GC d))) x.2.2]) w f):=by
 refine Gb (X:=⟨TR oa,TR oa,Hy 36 oa oc l.length G,w,f⟩) (H:=[]) (R:=[]) (B:=[]) (Fs:=[λw f=>BS w f l G,λw f=>Dc sC w f D sa sc,λw f=>Al w f d K L]) (f:=f) func21 C C C (JF (M:=TR oa) hv hP Hy.stab (λb Q=>⟨BQ.lt hP Q,hf b Q⟩) ⟨hL,hN,hY,tQ⟩ ⟨BS.mono,Dc.mono,Al.mono,tQ⟩)<|Aa 12 (λ_=>?_);refine DK (α:=Nat×lV×oA×Nat) (λx=>D.length-x.1) (λx=>x.1≤D.length) (λx=>(E4 0 (.slice x.2.2.1 (l.length+x.1) x.2.2.2) 1 (.slice sa D.length sc) 2 (.slice K d.len L) 7 (.int .i64 (x.1:Int)))) (λx=>⟨TR oa,TR x.2.2.1,Hy 36 x.2.2.1 x.2.2.2 (l.length+x.1) x.2.1,w,f⟩) (λx=>[]) (λx=>[]) (λx=>[]) (λx=>[λw f=>BS w f (l++(D.take x.1).map (λnm=>(nm,(d.len:Int)-1,GC d))) x.2.1,λw f=>Dc sC w f D sa sc,λw f=>Al w f d K L]) (0,G,oa,oc) (Nat.zero_le _) lE (λw f F=>(F.more (B':=[]) (F':=[λw f=>BS w f (l++(D.take 0).map (λnm=>(nm,(d.len:Int)-1,GC d))) G]) nE (AR.mem ⟨(by rw[List.take_zero,List.map_nil,List.append_nil];exact F.f0),tQ⟩) (Au.mem ⟨BS.mono,tQ⟩)).less sR sR nE (mR [0,2,3])) ?_;rintro⟨i,xs,U,W⟩ hi;dsimp only at hi ⊢;refine Aa 9 (λ_=>Ap 11 C C (λJ=>?_) (λJ=>?_));refine Aa 5 (λ_=>?_);have Y:i<D.length:=by have:=dT J;omega
 obtain⟨v0,hx⟩:∃v,D[i]?=some v:=⟨_,List.getElem?_eq_getElem Y⟩;refine Hh (α:=Nat×Nat) (λx=>sa=some ⟨x.1,x.2,none⟩) (λx=>[⟨x.1,x.2+i*1,[S v0]⟩]) (λx=>[]) (λw f F=>let ⟨b,off,J,Z⟩:=Dc.get 1 (λ_=>C) F.f1 hx;⟨(b,off),J,(oE Z),λ_ h=>by cases h⟩) (λx=>Au.mem tQ) ?_;rintro⟨b,off⟩ rfl;refine Cq [] Aj (rd [0,1,2,3,4,5,6,7,8] (.br 9 (.rd 10 (.br 11 (.br 12 (.rd 13 .fin) .fin) .fin)) .fin)) C kR<|By 9 [100,0] (And.intro oM<|y2<|And.intro ⟨oM,oM⟩<|λ_=>Ak C<|CR C C (eC tP C C) (λw f F=>jD w f F.vl d K L hy F.f2) (λx=>⟨Al.mono,tQ⟩) ?_);rintro⟨t,ta,tc⟩ O;dsimp only at O ⊢;subst O;refine Aa 1 (λ_=>Ar [] C<|Bf 1 (λ_=>Ak C<|Aa 2 (λb1=>λ_=>Ar [] C<|Ak C<|YS (MI':=TR) (I':=λa' c'=>Hy 36 a' c' (l.length+(i+1)) (xs++pC (v0,(d.len:Int)-1,GC d) ta tc)) 0 C C qap25 C C C C C C C oM oM (λw f h=>h) (λb h=>h) (λ_ _ h=>.inr h) (λw f w2 a2 c2 h F hr hG=>hr) (λ_ _=>Hy.stab) λoa3 oc3=>Aa 1 (λ_=>Ar [] C ?_))));exact Bf 1 (λ_=>BG<|Aa 7 (And.intro ⟨oM,oM⟩<|λ_=>Ce ((i+1,xs++pC (v0,(d.len:Int)-1,GC d) ta tc,oa3,oc3)) (show D.length-(i+1)<D.length-i by omega) (show i+1≤D.length by omega) lE (λw f F=>⟨_,(F.more (B':=[]) (F':=[λw f=>BS w f (l++(D.take (i+1)).map (λnm=>(nm,(d.len:Int)-1,GC d))) (xs++pC (v0,(d.len:Int)-1,GC d) ta tc)]) nE (AR.mem ⟨(by rw[CZ hx,List.map_append,← List.append_assoc];exact BS.snoc (p:=(v0,(d.len:Int)-1,GC d)) F.f0 F.f1),tQ⟩) (Au.mem ⟨BS.mono,tQ⟩)).less (.cons _ sR) sR nE (mR [0,3,4])⟩)));refine Aa 3 (λ_=>Df<|Aa 9 (λ_=>?_));obtain rfl:i=D.length:=by have:=dF J;omega
 exact A5 (Cb C C) (λw f F=>⟨(U,W,xs),f,C,tQ,F.exm,(λb Q=>let ⟨J,Z,h3⟩:=F.mi b Q;h3.elim (λh=>.inr ⟨h,J,Z⟩) .inl),F.res,⟨(by have h9:=F.f0;rw[List.take_length] at h9;exact h9),tQ⟩⟩)
end Go.Proofs.YtnojaendcldjpaaGreatDoor
