/- What it rests on, part 5. -/
import Derived.Test.YtegedalegfadgaaGreatDoorGc4
import Derived.Shelf.Strings.OnBuilder
import Derived.Shelf.Strconv.Itoa3
import Derived.Shelf.Strings.Fields
set_option linter.unusedVariables false
set_option linter.unusedSimpArgs false
namespace Go.SP
open Go.SW Go.RowKit
def eE(x:Except Ps (UInt8×lU×Ps)):Option (UInt8×lU):=match x with
 |.error _=>none
 |.ok (b,r,_)=>some (b,r)
def kX(x:Except Ps (lU×lU×Ps)):Option (lU×lU):=match x with
 |.error _=>none
 |.ok (b,r,_)=>some (b,r)
def My(x:Except Ps (List AM×lU×Ps)):Option (List AM×lU):=match x with
 |.error _=>none
 |.ok (t,r,_)=>some (t.map AM.er,r)
def N4(x:Except Ps (List AM)):Option (List AM):=match x with
 |.error _=>none
 |.ok l=>some (l.map AM.er)
theorem jD(p p':Ps)(l:lU):eE (Ho p l)=eE (Ho p' l):=by
 cases l with
 |nil=>rfl
 |cons c r =>
   simp only[Ho]
   split
   · rfl
   · split
     · rfl
     · split
       · rfl
       · split
         · rcases r with _|⟨a,_|⟨b,r⟩⟩
           · rfl
           · rfl
           · simp only[]
             split <;> rfl
         · rfl
variable {F n:Nat}{p:Ps}
theorem Oz{l r:lU}{b:UInt8}{q:Ps}(h:Ho p l=.ok (b,r,q)):r.length<l.length:=by
 cases l with
 |nil=>cases h
 |cons c l =>
   simp only[Ho] at h
   repeat' split at h
   all_goals first
     |(cases h;done)
     |(cases h;simp;done)
     |(cases h;simp;omega)
theorem TW:∀(F:Nat)(l:lU)(F':Nat)(s s' p p':Ps)(acc:lU),l.length<F→l.length<F'→kX (F3 s F p acc l)=kX (F3 s' F' p' acc l)
 |0,l,F',s,s',p,p',acc,h,h'=>by cases h
 |F+1,[],F',s,s',p,p',acc,h,h'=>by
   cases F' with
   |zero=>cases h'
   |succ F'=>rfl
 |F+1,c::r,F',s,s',p,p',acc,h,h'=>by
     cases F' with
     |zero=>cases h'
     |succ F' =>
       simp only[List.length_cons] at h h';rw[DH,DH]
       split
       · split <;> rfl
       · split
         · rfl
         · split
           · exact TW F r F' s s' _ _ _ oM oM
           · cases r with
             |nil=>rfl
             |cons d r =>
               have he:=jD (adv c p) (adv c p') (d::r)
               cases h1:Ho (adv c p) (d::r) with
               |error e =>
                 rw[h1] at he
                 cases h2:Ho (adv c p') (d::r) with
                 |error e'=>simp only[h1,h2];rfl
                 |ok x=>rw[h2] at he;cases he
               |ok x =>
                 obtain⟨b,r1,q⟩:=x;rw[h1] at he
                 cases h2:Ho (adv c p') (d::r) with
                 |error e'=>rw[h2] at he;cases he
                 |ok y =>
                   obtain⟨b',r1',q'⟩:=y;rw[h2] at he;simp only[eE,Option.some.injEq,Prod.mk.injEq] at he;obtain⟨rfl,rfl⟩:=he;have hs:=Oz h1;simp only[List.length_cons] at hs h h';simp only[h1,h2];exact TW F r1 F' s s' _ _ _ oM oM
theorem Y6(p p':Ps):∀l,(K6 p l).1=(K6 p' l).1
 | []=>rfl
 |c::r=>by
   simp only[K6]
   split
   · exact Y6 _ _ r
   · rfl
theorem VE:∀(l:lU)(p p':Ps),(DJ p l).1=(DJ p' l).1∧(DJ p l).2.1=(DJ p' l).2.1
 | [],_,_=>⟨rfl,rfl⟩
 |c::r,p,p'=>by
   simp only[DJ]
   split
   · have ih:=VE r (adv c p) (adv c p')
     exact⟨by simp only[ih.1],ih.2⟩
   · exact⟨rfl,rfl⟩
theorem Vj{F':Nat}(p p':Ps)(l:lU)(h:l.length≤F)(h':l.length≤F'):My (CO F p l)=My (CO F' p' l):=by
 cases l with
 |nil=>rfl
 |cons c r =>
   simp only[List.length_cons] at h h';rw[CV,CV]
   split
   · rfl
   · split
     · simp only[My,List.map_nil];rw[Y6 (adv c p) (adv c p')]
     · split
       · rfl
       · split
         · rfl
         · split
           · have hs:=TW F r F' p p' (adv c p) (adv c p') [] oM oM
             cases h1:F3 p F (adv c p) [] r with
             |error e =>
               rw[h1] at hs
               cases h2:F3 p' F' (adv c p') [] r with
               |error e'=>rfl
               |ok x=>rw[h2] at hs;cases hs
             |ok x =>
               obtain⟨tx,r1,q⟩:=x;rw[h1] at hs
               cases h2:F3 p' F' (adv c p') [] r with
               |error e'=>rw[h2] at hs;cases hs
               |ok y =>
                 obtain⟨tx',r1',q'⟩:=y;rw[h2] at hs;simp only[kX,Option.some.injEq,Prod.mk.injEq] at hs;obtain⟨rfl,rfl⟩:=hs;rfl
           · have hs:=VE r (adv c p) (adv c p')
             rw[← hs.1]
             cases Ju (c::(DJ (adv c p) r).1) with
             |none=>rfl
             |some x =>
               obtain⟨k,nm,tx⟩:=x;simp only[My,List.map_cons,List.map_nil];rw[hs.2];rfl
theorem Ns(p:Ps):∀l,(K6 p l).1.length≤l.length
 | []=>Nat.le_refl _
 |c::r=>by
   simp only[K6]
   split
   · have:=Ns (adv c p) r;simp only[List.length_cons];omega
   · exact Nat.le_refl _
theorem MB:∀(l:lU)(p:Ps),(DJ p l).2.1.length≤l.length
 | [],_=>Nat.le_refl _
 |c::r,p=>by
   simp only[DJ]
   split
   · have:=MB r (adv c p);simp only[List.length_cons];omega
   · exact Nat.le_refl _
theorem KM{s:Ps}:∀(F:Nat)(p:Ps)(acc l tx r:lU)(q:Ps),F3 s F p acc l=.ok (tx,r,q)→r.length≤l.length
 |0,_,_,_,_,_,_,h=>by cases h
 |F+1,p,acc,[],tx,r,q,h=>by cases h
 |F+1,p,acc,c::l,tx,r,q,h=>by
   simp only[List.length_cons];rw[DH] at h
   split at h
   · split at h
     · cases h
     · cases h;omega
   · split at h
     · cases h
     · split at h
       · have:=KM F _ _ _ tx r q h;omega
       · split at h
         · cases h
         · split at h
           · cases h
           · rename_i he
             have:=KM F _ _ _ tx r q h;have:=Oz he;omega
theorem M4{q:Ps}{l r:lU}{t:List AM}(h:CO F p l=.ok (t,r,q)):r.length<l.length:=by
 cases l with
 |nil=>cases h
 |cons c l =>
   simp only[List.length_cons];rw[CV] at h
   split at h
   · cases h;omega
   · split at h
     · simp only[Except.ok.injEq,Prod.mk.injEq] at h
       have:=Ns (adv c p) l;rw[h.2] at this;simp only at this;omega
     · split at h
       · cases h;omega
       · split at h
         · cases h;omega
         · split at h
           · split at h
             · cases h
             · rename_i hs
               cases h
               have:=KM _ _ _ _ _ _ _ hs;omega
           · split at h
             · cases h
             · simp only[Except.ok.injEq,Prod.mk.injEq] at h
               have:=MB l (adv c p);rw[h.2] at this;simp only at this;omega
theorem VT:∀(n:Nat)(l:lU)(n' F F':Nat)(p p':Ps),l.length≤n→l.length≤n'→l.length≤F→l.length≤F'→N4 (El F n p l)=N4 (El F' n' p' l)
 |n,[],n',F,F',p,p',_,_,_,_=>by rw[I1,I1]
 |0,c::r,_,_,_,_,_,h,_,_,_=>by simp at h
 |n+1,c::r,0,_,_,_,_,_,h,_,_=>by simp at h
 |n+1,c::r,n'+1,F,F',p,p',h1,h2,h3,h4=>by
   rw[Fc,Fc];have hs:=Vj (F:=F) (F':=F') p p' (c::r) h3 h4;simp only[List.length_cons] at h1 h2 h3 h4
   cases e1:CO F p (c::r) with
   |error e =>
     rw[e1] at hs
     cases e2:CO F' p' (c::r) with
     |error e'=>rfl
     |ok x=>rw[e2] at hs;cases hs
   |ok x =>
     obtain⟨t,r1,q⟩:=x;rw[e1] at hs
     cases e2:CO F' p' (c::r) with
     |error e'=>rw[e2] at hs;cases hs
     |ok y =>
       obtain⟨t',r1',q'⟩:=y;rw[e2] at hs;simp only[My,Option.some.injEq,Prod.mk.injEq] at hs;obtain⟨ht,rfl⟩:=hs;have hl:=M4 e1;simp only[List.length_cons] at hl;have ih:=VT n r1 n' F F' q q' oM oM oM oM;simp only[]
       cases e3:El F n q r1 with
       |error e =>
         rw[e3] at ih
         cases e4:El F' n' q' r1 with
         |error e'=>rfl
         |ok x=>rw[e4] at ih;cases ih
       |ok x =>
         rw[e3] at ih
         cases e4:El F' n' q' r1 with
         |error e'=>rw[e4] at ih;cases ih
         |ok y =>
           rw[e4] at ih;simp only[N4,Option.some.injEq] at ih ⊢;rw[List.map_append,List.map_append,ht,ih]
def HM(l:lU):Option (List AM):=N4 (El (l.length+1) l.length (1,1) l)
def nT(l:lU):Option (List AM×lU):=My (CO l.length (1,1) l)
theorem jX{l:lU}(h1:l.length≤n)(h2:l.length≤F):N4 (El F n p l)=HM l:=VT _ _ _ _ _ _ _ h1 (Nat.le_refl _) h2 oM
theorem mJ{l:lU}(h:l.length≤F):My (CO F p l)=nT l:=Vj _ _ _ h (Nat.le_refl _)
theorem bZ:HM []=some []:=rfl
theorem Iw(c:UInt8)(r:lU):HM (c::r)=(match nT (c::r) with
   |none=>none
   |some (t,r')=>(HM r').map (t ++ ·)):=by
 unfold HM;rw[List.length_cons,Fc];have hs:=mJ (F:=r.length+1+1) (p:=(1,1)) (l:=c::r) (by simp only[List.length_cons];omega)
 cases h:CO (r.length+1+1) (1,1) (c::r) with
 |error e=>rw[h] at hs;rw[← hs];rfl
 |ok x =>
   obtain⟨t,r1,q⟩:=x;rw[h] at hs;rw[← hs];simp only[My];have hl:=M4 h;simp only[List.length_cons] at hl;have:=jX (F:=r.length+1+1) (n:=r.length) (p:=q) (l:=r1) oM oM;unfold HM at this;rw[← this]
   cases El (r.length+1+1) r.length q r1 with
   |error e=>rfl
   |ok l=>simp[N4]
def pO(n:Nat)(l:lU):Option Nd:=match HM l with
 |none=>none
 |some t=>match Nb n t with
   |.error _=>none
   |.ok x=>some x
theorem Zk(n:Nat)(src:lU)(hl:src.length≤65536) :
   (∀x,pO n src=some x→(Ib n (Jz src)).1.er=x∧(Ib n (Jz src)).2.2.2=0)∧(pO n src=none→(Ib n (Jz src)).2.2.2≠0):=by
 have hlx:Jz src=(match El (src.length+1) src.length (1,1) src with
   |.error e=>.error (e.1,e.2,10)
   |.ok l=>.ok l):=by
   unfold Jz;rw[if_neg (by simp;omega)];rfl
 rw[hlx];unfold pO HM
 cases El (src.length+1) src.length (1,1) src with
 |error e=>exact⟨λx h=>(by cases h),λ_=>by simp[Ib]⟩
 |ok l =>
   simp only[N4];rw[XL];unfold Ib Nb;simp only[]
   cases AR l [] .nil with
   |error e=>exact⟨λx h=>(by cases h),λ_=>by simp⟩
   |ok fo =>
     simp only[]
     cases AN (CA n) fo with
     |error e=>exact⟨λx h=>(by cases h),λ_=>by simp⟩
     |ok nds=>exact⟨λx h=>by cases h;exact⟨rfl,rfl⟩,λh=>by cases h⟩
def fO(U:Nat→Prop)(w:World)(a:Option Addr)(i:Nat)(r:Nd):Prop :=
 r=.nil∨∃b off l T,U b∧a=some ⟨b,off,none⟩∧AT w b l T∧Gj U w r (l.drop (off+i*6))
variable {co ln nm:Int}{i:Nat}{U:Nat→Prop}{a:Option Addr}{w':World}
theorem fO.ext{w:World}{r:Nd}(h:fO U w a i r)(hE:AY w w'):fO U w' a i r :=
 h.imp id λ⟨b,off,l,T,hu,ha,hb,hc⟩=>⟨b,off,l,T,hu,ha,hb.ext hE,hc.ext hE⟩
theorem fO.head{w:World}{op:Int}{tx:lU}{kids r:Nd}(h:fO U w a i (.cons op ln co tx nm kids r)):∃b off l T ka kn kc l',U b∧a=some ⟨b,off,none⟩∧AT w b l T ∧
   l.drop (off+i*6)=.int .i64 op::.int .i64 ln::.int .i64 co::S tx::.int .i64 nm::.slice ka kn kc::l'∧HI U w ka kn kc kids:=by
 rcases h with h|⟨b,off,l,T,hu,ha,hb,ka,kn,kc,l',h4,h5,h6⟩
 · cases h
 · exact⟨b,off,l,T,ka,kn,kc,l',hu,ha,hb,h4,h5⟩
theorem fO.next{w:World}{op:Int}{tx:lU}{kids r:Nd}(h:fO U w a i (.cons op ln co tx nm kids r)):fO U w a (i+1) r:=by
 rcases h with h|⟨b,off,l,T,hu,ha,hb,ka,kn,kc,l',h4,h5,h6⟩
 · cases h
 · refine .inr ⟨b,off,l,T,hu,ha,hb,?_⟩
   have:l.drop (off+(i+1)*6)=l':=by
     rw[show off+(i+1)*6=(off+i*6)+6 by omega,← List.drop_drop,h4];rfl
   rw[this];exact h6
theorem Nd.er_len:∀x:Nd,x.er.len=x.len
 |.nil=>rfl
 |.cons _ _ _ _ _ _ r=>by simp only[Nd.er,Nd.len,Nd.er_len r]
theorem MY{p:Nat→Prop}(h0:p 0)(h:∀m,p m→p (m+1))(m:Nat):p m:=by
 induction m with
 |zero=>exact h0
 |succ m ih=>exact h m ih
end Go.SP
namespace Go.SW
open Go.RowKit
variable {zl:List Value}{bytes cs k:Nat}{a:Option Addr}{e:TypeId}
theorem dX{P:Program}{σ:Br}{w:World}{ty T:TypeId}{x y:Operand}{size:Nat}(hT:OF P T=some (e,size,bytes,zl)){b:Option Addr}{c:Nat}
   (hs:ev σ x=some (.slice a k c)) (hx:ev σ y=some (.slice b 0 cs)) (hk:k≤c):AS P σ (.call {callee:=.builtin .append,args:=#[x,y],argTypes:=#[T,T]}) ty w (.slice a k c) w:=by
 unfold OF at hT
 split at hT
 · rename_i e' hu
   split at hT
   · rename_i i hi
     intro ρ _ _ _ _ hρ
     have h0:(Builtin.firstCells i.size 0 (.slice b 0 cs)).run P w=.ok #[] w:=by
       cases b with
       |none=>simp[Builtin.firstCells]
       |some q=>simp only[Builtin.firstCells,Nat.zero_mul];exact run_loadCells_list (P:=P) w q [] (λj v hj=>by simp at hj)
     have h1:∀q:Addr,(storeCells q []).run P w=.ok () w:=λq=>by simp[storeCells]
     cases a with
     |none=>simp[execOp,resolve,invoke,builtin,hρ _ _ hs,hρ _ _ hx,Builtin.append_,run_underlying hu,sizeOf,typeInfo,hi,Builtin.lenOf,hk,h0]
     |some q=>simp[execOp,resolve,invoke,builtin,hρ _ _ hs,hρ _ _ hx,Builtin.append_,run_underlying hu,sizeOf,typeInfo,hi,Builtin.lenOf,hk,h0,h1]
   · cases hT
 · cases hT
end Go.SW
namespace Go.SP
open Go.SW Go.RowKit
variable {U:Nat→Prop}{a q':Option Addr}{w':World}
theorem HI.lt{w:World}{n c:Nat}{x:Nd}(h:HI U w a n c x):HI (λb=>U b∧b<w.heap.size) w a n c x:=HI.imp h λ_ hu hl=>⟨⟨hu,hl⟩,rfl⟩
theorem HI.grow{w:World}{q:Option Addr}{n c:Nat}{x:Nd}(h:HI U w a n c x)(hG:GA q w q' w')(hne:∀b,U b→some b≠rb q):HI U w' a n c x :=
 HI.imp h λb hu hl=>⟨hu,hG.block b hl (hne b hu)⟩
theorem GA.refl(a:Option Addr)(w:World):GA a w a w:=⟨rfl,rfl,rfl,Nat.le_refl _,λ_ _ _=>rfl,.inl rfl⟩
section
variable{P:Program}{n:Nat}{Q:Bm}{σ:Br}{ds:List Deferred}{w w0 w1:World}{ops:Array Oper}{ty T:TypeId}{pos:String}{af:Array Edge}{rest:List Oper}{d:Nat}{x y:Operand}
end
end Go.SP
namespace Go.Proofs.YtegedalegfadgaaGreatDoor
open Go.SW Go.SP Go.RowKit Go.Proofs.Tryz
def wO:Eh:=⟨[],[(53,57,4)],[],[],[(57,true,4)],[(57,[.int .i64 0,.int .i64 0,.string ⟨#[]⟩,.slice none 0 0])],[(57,[(0,1),(1,1),(2,1),(3,1)])],[]⟩
theorem R5:wO.Ok prog:=⟨tQ,(And.intro DT tQ),tQ,tQ,(And.intro AI tQ),(And.intro DN tQ),(And.intro RO tQ),tQ⟩
theorem Ob(w:World)(f:Fq)(hv:Vl w f)(t:T1)(a:Option Addr)(c:Nat)(hb:t.bnd)(hT:Ah w f t.kids a c) :
  BC prog 70 #[tV t a c] w (BW (α:=Option Addr×Nat) (λx=>tV t x.1 x.2) (λ_=>True) (λx=>[λw f=>Ah w f t.kids x.1 x.2]) w f) :=
 MY (p:=oG prog 70) (λw f hv t a c h=>by omega) (λm ih w f hv t a c h1 h2 h3=>ZL m ih w f hv t a c h1 h2 h3) (t.kids.size+1) w f hv t a c (Nat.lt_succ_self _) hb hT
theorem TJ(w:World)(f:Fq)(hv:Vl w f)(k:Ty)(a:Option Addr)(c:Nat)(hl:k.len≤200000)(hT:Ah w f k a c) :
  BC prog 50 #[.slice a k.len c] w (BW (α:=Option Addr×Nat) (λx=>.slice x.1 k.len x.2) (λ_=>True) (λx=>[λw f=>Ah w f k x.1 x.2]) w f):=by
 refine Dl (X:=X0 w f) (H:=[]) (R:=[]) (B:=[]) (Fs:=[λw f=>Ah w f k a c]) (f:=f) func50 rfl rfl rfl (C8 hv ⟨hT,tQ⟩ ⟨Ah.mono,tQ⟩)<|go R5 12 [] (λ_=>Ba 4 rfl rfl (λh1=>?_) (λh1=>?_));obtain rfl:a=none:=by cases a with|none=>rfl|some q=>cases h1
 obtain rfl:k=.nil:=by rcases hT.2 with h|⟨_,_,h,_⟩;exact h;cases h
 exact go R5 8 [] (λ_=>Bc (DI rfl rfl) (λw f hM=>⟨(none,0),f,rfl,tQ,hM.exm,⟨Ah.nil _ _ _ _,tQ⟩⟩));refine go R5 5 [] (λ_=>xE rfl rfl DT λbr1=>go R5 1 [] (λ_=>?_));rcases Nat.eq_zero_or_pos k.len with h0|h0
 obtain rfl:=Ty.len0 h0;exact EU rfl rfl (λw f hM=>dX Dt rfl rfl (Nat.le_refl _))<|go R5 4 [] (λ_=>Bc (DI rfl rfl) (λw f hM=>⟨(some ⟨br1,0,none⟩,0),f,rfl,tQ,hM.exm,⟨Ah.nil _ _ _ _,tQ⟩⟩));refine C6 (α:=Nat×Nat×List Value) (λx=>a=some ⟨x.1,x.2.1,none⟩∧(∀v∈x.2.2,v.oneCell'=true)∧x.2.2.length=k.len*4) (λx=>[⟨x.1,x.2.1,x.2.2⟩]) (λx=>[λw f=>Bo w f k x.2.2]) (λw f hM=>let ⟨x,h1,h2,h3⟩:=Ah.cells (k:=k) (a:=a) (c:=c) hM.f0 h0;⟨x,h1,(oE h2),A2.mem ⟨h3,tQ⟩⟩) (λx=>Af.mem ⟨Bo.mono,tQ⟩) ?_;rintro⟨eb,eo,xs⟩ ⟨rfl,h1c,hxl⟩;exact WN 0 0 rfl rfl Dt rfl rfl rfl rfl rfl rfl hxl h1c h0 (λ_ _=>rfl) oM oM λa2 c2=>go R5 4 [] (λ_=>Bc (DI rfl rfl) (λw f hM=>let ⟨f2,hM2,hF⟩:=Ou hM hM.f0 h0;⟨(a2,c2),f2,by simp only[Nat.zero_add],tQ,hM2.exm,⟨hF,tQ⟩⟩))
theorem Dc(w:World)(f:Fq)(hv:Vl w f)(tx:lU)(k:Ty)(a:Option Addr)(c:Nat)(hl:k.len≤200000)(hT:Ah w f k a c) :
  BC prog 20 #[S tx,.slice a k.len c] w (BW (α:=Option Addr×Nat) (λx=>tV (.con tx k) x.1 x.2) (λ_=>True) (λx=>[λw f=>Ah w f k x.1 x.2]) w f):=by
 refine Dl (X:=X0 w f) (H:=[]) (R:=[]) (B:=[]) (Fs:=[λw f=>Ah w f k a c]) (f:=f) func20 rfl rfl rfl (C8 hv ⟨hT,tQ⟩ ⟨Ah.mono,tQ⟩)<|go R5 9 [] (λb1=>λ_=>BA rfl rfl (eC Y2 rfl rfl) (λw f hM=>TJ w f hM.vl k a c hl hM.f0) (λx=>⟨Ah.mono,tQ⟩) ?_);rintro⟨a2,c2⟩ -;exact go R5 5 [0] (y<|λ_=>Bc (λw f hM=>AJ rfl (Ac rfl AI hM.k0 rfl)) (λw f hM=>⟨(a2,c2),f,rfl,tQ,hM.exm,⟨hM.f0,tQ⟩⟩))
def wR:Eh:=⟨[(57,0,0),(130,0,0),(57,1,1)],[],[],[],[(3,false,1),(57,true,4)],[(57,[.int .i64 0,.int .i64 0,.string ⟨#[]⟩,.slice none 0 0])],[],[]⟩
theorem IH:wR.Ok prog:=⟨(And.intro HS (And.intro R9 (And.intro Jq tQ))),tQ,tQ,tQ,(And.intro Dd (And.intro AI tQ)),(And.intro DN tQ),tQ,tQ⟩
theorem Ev(w:World)(f:Fq)(hv:Vl w f)(sb mb:Nat)(s:BX)(fr pr:Int)(hS:BQ 130 sb mb s fr pr w f)(hw:J3 s)(t:T1)(a:Option Addr)(c:Nat)(hb:t.bnd)(hT:Ah w f t.kids a c) :
  BC prog 99 #[.pointer (some ⟨sb,0,none⟩),tV t a c] w (BW (α:=Option Addr×Nat) (λx=>tV (Ai s t) x.1 x.2) (λ_=>True) (λx=>[λw f=>Ah w f (Ai s t).kids x.1 x.2]) w f):=by
 obtain⟨hSb,es,hSm,hSe⟩:=hS;have hdis:=Gx.dis hSe hw;have hlb:=hSb.lt;have hlm:=hSm.lt;refine Dl (X:=X0 w f) (H:=[]) (R:=[]) (B:=[]) (Fs:=[λw f=>Ah w f t.kids a c]) (f:=f) func99 rfl rfl rfl (C8 hv ⟨hT,tQ⟩ ⟨Ah.mono,tQ⟩)<|go IH 8 [] (λb1=>λb2=>λ_=>?_);refine HK (α:=T1×Option Addr×Nat) (λx=>Ft s x.1) (λx=>Ai s t=Ai s x.1∧x.1.bnd) (λx=>(E3 0 (.pointer (some ⟨sb,0,none⟩)) 3 (.pointer (some ⟨b1,0,none⟩)) 4 (.pointer (some ⟨b2,0,none⟩)))) (λx=>X0 w f) (λx=>[⟨b2,[.int .i64 0,.int .i64 0,.string ⟨#[]⟩,.slice none 0 0],57,true⟩,⟨b1,tC x.1 x.2.1 x.2.2,57,true⟩]) (λx=>[]) (λx=>[]) (λx=>[λw f=>Ah w f x.1.kids x.2.1 x.2.2]) (t,a,c) ⟨rfl,hb⟩ lE (λw f hM=>hM) ?_;rintro⟨u,ua,uc⟩ ⟨hh,hub⟩;dsimp only at hh hub ⊢;refine go IH 8 [1] (y<|λ_=>Ba 9 rfl rfl (λh1=>?_) (λh1=>?_));refine go IH 5 [] (λ_=>?_);obtain⟨n,rfl⟩:=EF h1
 cases hl:Ce s n with
 |none =>
  have hlk:=(Gx.look hSe n).1 hl;refine Mx (λw=>AT w sb [.map (some mb),.int .i64 fr,.int .i64 pr] 130∧Cm Fw w mb es) (λw2 f2 _ hE=>⟨(hE.stp.block sb hlb (λh=>h)).trans hSb,hSm.heap (hE.stp.block mb hlm (λh=>h))⟩) [0,1] Ap (rd [0,1,2,3,4,5,6,7,8,9] (.br 10 (.br 11 (.rd 12 .fin) .fin) .fin)) rfl kR kR kR (λ_ _ _ _ _ h=>h)<|AA IH 3 [] (λ_=>Ik rfl rfl rfl (λw hK=>Al rfl TD hK.2.2.1 rfl)<|AA IH 2 [1] (y<|λ_=>Ik rfl rfl rfl (λw hK=>Li (K:=Fw) (a:=n) rfl rfl U0 OJ NU hK.2.2.2 hdis hlk)<|AA IH 3 [] (λ_=>Ag rfl ?_ Aj)));refine go IH 2 [] (λb3=>λ_=>Bj [1,2] (λw2 f2 _ hE=>⟨(hE.stp.block sb hlb (λh=>h)).trans hSb,hSm.heap (hE.stp.block mb hlm (λh=>h))⟩) rfl (λ_ h=>h)<|Ag rfl ?_ Aj);refine go IH 2 [0] (y<|λ_=>Bj [1,2] (λw2 f2 _ hE=>⟨(hE.stp.block sb hlb (λh=>h)).trans hSb,hSm.heap (hE.stp.block mb hlm (λh=>h))⟩) rfl (λ_ h=>h)<|AA IH 1 [] (λ_=>B4<|go IH 12 [] (λ_=>GR<|go IH 9 [2,1] (y<|y<|λ_=>?_))));have hfin:Ai s t=.var n:=by rw[hh,NF hl]
  exact Bc (λw f hM=>AJ rfl (Ac rfl AI hM.k1 rfl)) (λw f hM=>⟨(ua,uc),f,(by show _=tV (Ai s t) ua uc;rw[hfin]),tQ,hM.exm,⟨by show Ah w f (Ai s t).kids ua uc;rw[hfin];exact hM.f0,tQ⟩⟩)
 |some t2 =>
  refine C6 (α:=Option Addr×Nat) (λx=>FL es n=some (tV t2 x.1 x.2)) (λx=>[]) (λx=>[λw f=>Ah w f t2.kids x.1 x.2]) (λw f hM=>let ⟨a2,c2,h1,h2⟩:=(Gx.look hSe n).2 t2 hl;⟨(a2,c2),h1,nE,A2.mem ⟨Ah.mono _ _ _ _ h2 hM.ent,tQ⟩⟩) (λx=>Af.mem ⟨Ah.mono,tQ⟩) ?_;rintro⟨a2,c2⟩ hlk;refine Mx (λw=>AT w sb [.map (some mb),.int .i64 fr,.int .i64 pr] 130∧Cm Fw w mb es) (λw2 f2 _ hE=>⟨(hE.stp.block sb hlb (λh=>h)).trans hSb,hSm.heap (hE.stp.block mb hlm (λh=>h))⟩) [0,1] Ap (rd [0,1,2,3,4,5,6,7,8,9] (.br 10 (.br 11 (.rd 12 .fin) .fin) .fin)) rfl kR kR kR (λ_ _ _ _ _ h=>h)<|AA IH 3 [] (λ_=>Ik rfl rfl rfl (λw hK=>Al rfl TD hK.2.2.1 rfl)<|AA IH 2 [1] (y<|λ_=>Ik rfl rfl rfl (λw hK=>KQ (K:=Fw) (a:=n) rfl rfl U0 OJ NU hK.2.2.2 hdis hlk)<|AA IH 3 [] (λ_=>Ag rfl ?_ Aj)));refine go IH 2 [] (λb4=>λ_=>Bj [1,2] (λw2 f2 _ hE=>⟨(hE.stp.block sb hlb (λh=>h)).trans hSb,hSm.heap (hE.stp.block mb hlm (λh=>h))⟩) rfl (λ_ h=>h)<|Ag rfl ?_ Aj);exact go IH 2 [0] (y<|λ_=>Bj [1,2] (λw2 f2 _ hE=>⟨(hE.stp.block sb hlb (λh=>h)).trans hSb,hSm.heap (hE.stp.block mb hlm (λh=>h))⟩) rfl (λ_ h=>h)<|AA IH 1 [] (λ_=>B4<|go IH 16 [0,2] (y<|y<|λ_=>DM ((t2,a2,c2)) (dW hw hl) ⟨by rw[hh,UK hw hl],Nk hw hl⟩ lE (λw f hM=>⟨_,hM.less (List.sublist_cons_self _ _) sR nE (mR [0])⟩))))
 refine go IH 3 [] (λ_=>GR<|go IH 9 [1,0] (y<|y<|λ_=>?_));obtain⟨tx,k,rfl⟩:=Ga h1;have hfin:Ai s t=.con tx k:=by rw[hh,Hg]
 exact Bc (λw f hM=>AJ rfl (Ac rfl AI hM.k0 rfl)) (λw f hM=>⟨(ua,uc),f,(by show _=tV (Ai s t) ua uc;rw[hfin]),tQ,hM.exm,⟨by show Ah w f (Ai s t).kids ua uc;rw[hfin];exact hM.f0,tQ⟩⟩)
def wV:Eh:=⟨[(57,0,0),(57,3,3)],[(53,57,4)],[],[],[(3,false,1),(57,true,4),(53,false,1)],[(57,[.int .i64 0,.int .i64 0,.string ⟨#[]⟩,.slice none 0 0]),(3,[.int .i64 0])],[],[]⟩
theorem I7:wV.Ok prog:=⟨(And.intro HS (And.intro FH tQ)),(And.intro DT tQ),tQ,tQ,(And.intro Dd (And.intro AI (And.intro Hs tQ))),(And.intro DN (And.intro WL tQ)),tQ,tQ⟩
theorem Sz(w:World)(f:Fq)(hv:Vl w f)(nb:Nat)(n:Int)(hn:0≤n∧n≤100000)(hC:K2 nb n w f)(hf:f nb=0)(t:T1)(a:Option Addr)(c:Nat) :
  BC prog 108 #[tV t a c,.pointer (some ⟨nb,0,none⟩)] w (Fv (α:=Unit) (λ_=>.bool (decide (n+1≤1000))) (λ_=>True) (λb=>b=nb) (λ_=>K2 nb (n+1)) (λ_=>[]) w f):=by
 exact Dl (X:=⟨λb=>b=nb,λ_=>False,λ_ _=>True,w,f⟩) (H:=[⟨nb,[.int .i64 n],3,false⟩]) (R:=[]) (B:=[]) (Fs:=[]) (f:=f) func108 rfl rfl rfl (oD hv hC hf tQ tQ)<|go I7 21 [1,1,1] (λb1=>y<|And.intro ⟨oM,oM⟩<|y<|y<|λ_=>Bc (DI rfl rfl) (λw f hM=>⟨(),f,rfl,tQ,hM.exm,hM.blk _ kH,tQ⟩))
theorem UQ(k:Nat)(ih:∀j,j<k→oR prog 107 130 108 j)(w:World)(f:Fq)(hv:Vl w f)(sb mb:Nat)(s:BX)(fr pr:Int)(nb:Nat)(hS:BQ 130 sb mb s fr pr w f)(hw:J3 s)(hns:sb≠nb)(hnm:mb≠nb)(hf:f nb=0)(hC:K2 nb (1000-(k:Int)) w f)(hk:k≤1000)(t:T1)(a:Option Addr)(c:Nat)(hb:t.bnd)(hT:Ah w f t.kids a c) :
  BC prog 107 #[.pointer (some ⟨sb,0,none⟩),tV t a c,.func (.func 108) #[] #[.pointer (some ⟨nb,0,none⟩)]] w (Fv (α:=Int) (λ_=>.bool (BH s k t.one).isSome) (λx=>∀j,BH s k t.one=some j→x=1000-(j:Int)) (λb=>b=nb) (λx=>K2 nb x) (λ_=>[]) w f):=by
 have hkb:=(C7 hw hb).1;refine Dl (X:=⟨λb=>b=nb,λb=>b=nb,K2 nb (1000-(k:Int)),w,f⟩) (H:=[]) (R:=[]) (B:=[]) (Fs:=[λw f=>Ah w f t.kids a c]) (f:=f) func107 rfl rfl rfl (Z3 (M:=λb=>b=nb) (I:=K2 nb (1000-(k:Int))) hv hC (K2.stab rfl) (λb hb=>by cases hb;exact⟨AT.lt hC,hf⟩) ⟨hT,tQ⟩ ⟨Ah.mono,tQ⟩)<|go I7 10 [0] (λb1=>y<|λ_=>BA rfl rfl (eC Jo rfl rfl) (λw f hM=>Ev w f hM.vl sb mb s fr pr (BQ.keep hS hM.exm hM.ent hns hnm) hw t a c hb hM.f0) (λx=>⟨Ah.mono,tQ⟩) ?_);rintro⟨ha,hc⟩ -;refine go I7 8 [0,0] (y<|y<|λ_=>OM (XX:=λ_ _=>False) rfl rfl (λ_=>Uh (caps:=[.pointer (some ⟨nb,0,none⟩)]) cE rfl rfl) (λw f hM=>(Sz w f hM.vl nb (1000-(k:Int)) oM hM.res (hM.mi nb rfl).2.1 (Ai s t) ha hc).retP) (λ_=>K2.stab rfl) (λ_=>trivial) (λ_ _ _ _ _ h=>h.elim) ?_);rintro⟨⟩ -;refine go I7 3 [] (λ_=>Ba 15 rfl rfl (λh1=>?_) (λh1=>?_));replace h1:=Gg h1;refine go I7 8 [] (λ_=>?_);obtain rfl:k=0:=by have:=of_decide_eq_false h1;omega
 have hres:=L2 s t;exact Bc (DI rfl rfl) (λw f hM=>⟨_,f,(by rw[hres];rfl),(λj h=>by rw[hres] at h;cases h),hM.exm,hM.res,tQ⟩);replace h1:=Gs h1;refine go I7 5 [] (λ_=>?_);obtain⟨k2,rfl⟩:∃k2,k=k2+1:=⟨k-1,by have:=of_decide_eq_true h1;omega⟩;refine go I7 6 [0] (y<|λ_=>Ba 18 rfl rfl (λh2=>?_) (λh2=>?_));refine go I7 10 [0] (y<|λ_=>?_);refine HK (α:=Nat×Ty×Nat) (λx=>x.2.1.len) (λx=>x.1+x.2.1.len=(Ai s t).kids.len∧BH s k2 (Ai s t).kids=BH s x.2.2 x.2.1∧x.2.2≤k2∧x.2.1.bnd) (λx=>(E6 0 (.pointer (some ⟨sb,0,none⟩)) 2 (.func (.func 108) #[] #[.pointer (some ⟨nb,0,none⟩)]) 4 (.pointer (some ⟨b1,0,none⟩)) 20 (.slice ha (Ai s t).kids.len hc) 21 (.int .i64 ((Ai s t).kids.len:Int)) 22 (.int .i64 (x.1:Int)))) (λx=>⟨λb=>b=nb,λb=>b=nb,K2 nb (1000-(x.2.2:Int)),w,f⟩) (λx=>[⟨b1,tC (Ai s t) ha hc,57,true⟩]) (λx=>[]) (λx=>[]) (λx=>[λw f=>AZ w f ha x.1 x.2.1]) (0,(Ai s t).kids,k2) ⟨by simp,rfl,Nat.le_refl _,(C7 hw hb).2⟩ lE (λw f hM=>(by have hM2:=hM.more (B':=[]) (F':=[λw f=>AZ w f ha 0 (Ai s t).kids]) nE (A2.mem ⟨Ah.at hM.f0,tQ⟩) (Af.mem ⟨AZ.mono,tQ⟩) |>.less (H':=[⟨b1,tC (Ai s t) ha hc,57,true⟩]) (R':=[]) (B':=[]) (F':=[λw f=>AZ w f ha 0 (Ai s t).kids]) sR sR nE (mR [0]);rw[show (1000-((k2+1:Nat):Int))+1=1000-(k2:Int) by omega] at hM2;exact hM2)) ?_;rintro⟨i,r,j⟩ ⟨hi,hrem,hjk,hrb⟩;dsimp only at hi hrem hjk hrb ⊢;refine go I7 6 [] (λ_=>Ba 23 rfl rfl (λh3=>?_) (λh3=>?_));refine go I7 6 [] (λ_=>?_);have hil:i<(Ai s t).kids.len:=by have:=of_decide_eq_true h3;omega
 obtain⟨t2,r,rfl⟩:=Ty.cases1 r oM;rw[T1.len_cons] at hi;refine C6 (α:=Nat×Nat×Option Addr×Nat) (λx=>ha=some ⟨x.1,x.2.1,none⟩) (λx=>[⟨x.1,x.2.1+i*4,tC t2 x.2.2.1 x.2.2.2⟩]) (λx=>[λw f=>Ah w f t2.kids x.2.2.1 x.2.2.2,λw f=>AZ w f ha (i+1) r]) (λw f hM=>let ⟨b,off,ka,kc,h1,h2,h3,h4⟩:=AZ.head hM.f0;⟨(b,off,ka,kc),h1,(oE h2),A2.mem ⟨h3,h4,tQ⟩⟩) (λx=>Af.mem ⟨Ah.mono,AZ.mono,tQ⟩) ?_;rintro⟨eb,eo,ka,kc⟩ rfl;refine go I7 12 [100,0,0,0] (And.intro oM<|y2<|λb2=>y<|y<|λ_=>OM (XX:=λ_ _=>False) rfl rfl (eC MZ rfl rfl) (λw f hM=>(ih j oM w f hM.vl sb mb s fr pr nb (BQ.keep hS hM.exm hM.ent hns hnm) hw hns hnm (hM.mi nb rfl).2.1 hM.res oM t2 ka kc (T1.bnd_cons.1 hrb).1 hM.f0).retP) (λ_=>K2.stab rfl) (λ_=>trivial) (λ_ _ _ _ _ h=>h.elim) ?_);rintro cx hcx;refine go I7 3 [] (λ_=>Ba 30 rfl rfl (λh4=>?_) (λh4=>?_));replace h4:=Gg h4;have hj2:BH s j t2.one=none:=by cases hx:BH s j t2.one with|none=>rfl|some q=>rw[hx] at h4;cases h4
 refine go I7 9 [] (λ_=>fD<|go I7 2 [] (λ_=>?_));have hone:=Kz s k2 t;have hres:BH s (k2+1) t.one=none:=by rw[hone,hrem,JW,hj2];rfl
 exact Bc (DI rfl rfl) (λw f hM=>⟨_,f,(by rw[hres];rfl),(λj h=>by rw[hres] at h;cases h),hM.exm,hM.res,tQ⟩);replace h4:=Gs h4;obtain⟨j2,hj2⟩:=Option.isSome_iff_exists.1 h4;exact go I7 8 [] (And.intro ⟨oM,oM⟩<|λ_=>DM ((i+1,r,j2)) (show r.len<(t2.cons r).len by rw[T1.len_cons];omega) ⟨show i+1+r.len=(Ai s t).kids.len by omega,show BH s k2 (Ai s t).kids=BH s j2 r by rw[hrem,JW,hj2];rfl,show j2≤k2 by have:=Fe s j t2.one j2 hj2;omega,(T1.bnd_cons.1 hrb).2⟩ lE (λw f hM=>⟨_,by have hM2:=hM.less (H':=[⟨b1,tC (Ai s t) (some ⟨eb,eo,none⟩) hc,57,true⟩]) (R':=[]) (B':=[]) (F':=[λw f=>AZ w f (some ⟨eb,eo,none⟩) (i+1) r]) (List.sublist_cons_self _ _) sR nE (mR [1]);rw[hcx j2 hj2] at hM2;exact hM2⟩));refine go I7 3 [] (λ_=>GR<|go I7 8 [] (λ_=>?_));have hone:=Kz s k2 t;obtain rfl:r=.nil:=Ty.len0 (by have:=of_decide_eq_false h3;omega);have hres:BH s (k2+1) t.one=some j:=by rw[hone,hrem];cases j <;> rfl
 exact Bc (DI rfl rfl) (λw f hM=>⟨_,f,(by rw[hres];rfl),(λq h=>by rw[hres] at h;cases h;rfl),hM.exm,hM.res,tQ⟩);refine go I7 9 [] (λ_=>?_);have hone:=Kz s k2 t;obtain⟨n,hv2⟩:=EF (t:=Ai s t) (by have:=h2;simpa using this);have hres:BH s (k2+1) t.one=some k2:=by rw[hone,hv2];cases k2 <;> rfl
 exact Bc (DI rfl rfl) (λw f hM=>⟨_,f,(by rw[hres];rfl),(λq h=>by rw[hres] at h;cases h;omega),hM.exm,hM.res,tQ⟩)
theorem UP:∀k,oR prog 107 130 108 k:=λk=>Nat.strongRecOn k λk ih w f hv sb mb s fr pr nb hS hw hns hnm hf hC hk t a c hb hT=>UQ k ih w f hv sb mb s fr pr nb hS hw hns hnm hf hC hk t a c hb hT
theorem NX(w:World)(f:Fq)(hv:Vl w f)(sb mb:Nat)(s:BX)(fr pr:Int)(hS:BQ 130 sb mb s fr pr w f)(hw:J3 s)(t:T1)(a:Option Addr)(c:Nat)(hb:t.bnd)(hT:Ah w f t.kids a c) :
  BC prog 82 #[.pointer (some ⟨sb,0,none⟩),tV t a c] w (BW (α:=Unit) (λ_=>.bool (FD s t)) (λ_=>True) (λ_=>[]) w f):=by
 have hlb:=hS.1.lt;have hlm:mb<w.heap.size:=by obtain⟨_,es,h,_⟩:=hS;exact h.lt
 refine Dl (X:=X0 w f) (H:=[]) (R:=[]) (B:=[]) (Fs:=[λw f=>Ah w f t.kids a c]) (f:=f) func82 rfl rfl rfl (C8 hv ⟨hT,tQ⟩ ⟨Ah.mono,tQ⟩)<|go I7 16 [0,1] (λb1=>λb2=>y<|y<|λ_=>EU rfl rfl (λw f hM=>Q5 rfl)<|pL 0 rfl rfl<|KA (λw f hM=>(⟨λe=>(hM.mi _ (.inr rfl)).2.2.elim (λh=>absurd hlb (by rw[e];exact Nat.not_lt.2 h)) (λh=>h),λe=>(hM.mi _ (.inr rfl)).2.2.elim (λh=>absurd hlm (by rw[e];exact Nat.not_lt.2 h)) (λh=>h)⟩:sb≠b2∧mb≠b2)) λhne=>OM (α:=Int) (val:=λ_=>.bool (BH s 1000 t.one).isSome) (q:=λ_=>True) (I':=λx w f=>True∧K2 b2 x w f) (F':=λ_=>[]) (XX:=λ_ _=>False) rfl rfl (eC MZ rfl rfl) (λw f hM=>((UP 1000 w f hM.vl sb mb s fr pr b2 (BQ.keep hS hM.exm hM.ent (λh=>h) (λh=>h)) hw hne.1 hne.2 (hM.mi _ (.inr rfl)).2.1 hM.res.2 (Nat.le_refl _) t a c hb hM.f0).mono λv w2 ⟨x,f2,h1,h2,h3,h4,h5⟩=>⟨x,f2,h1,tQ,h3.mono (λb hb=>.inr hb),⟨tQ,h4⟩,h5⟩).retP) (λ_=>(λ_ _ _ _ h hF hm=>⟨tQ,K2.stab (MI:=λb=>False∨b=b2) (.inr rfl) _ _ _ _ h.2 hF hm⟩)) (λ_=>trivial) (λ_ _ _ _ _ h=>h.elim) ?_);rintro cx -;exact go I7 4 [] (λ_=>Bc (DI rfl rfl) (λw f hM=>⟨(),f,(by rw[FD,FQ]),tQ,hM.exm,tQ⟩))
def xN:Eh:=⟨[(57,0,0),(57,1,1),(57,3,3)],[(53,57,4)],[],[],[(3,false,1),(57,true,4),(53,false,1)],[(57,[.int .i64 0,.int .i64 0,.string ⟨#[]⟩,.slice none 0 0])],[],[]⟩
theorem I9:xN.Ok prog:=⟨(And.intro HS (And.intro Jq (And.intro FH tQ))),(And.intro DT tQ),tQ,tQ,(And.intro Dd (And.intro AI (And.intro Hs tQ))),(And.intro DN tQ),tQ,tQ⟩
theorem Un(w:World)(f:Fq)(hv:Vl w f)(xb:Nat)(x:Int)(hB:AT w xb [.int .i64 x] 3)(t:T1)(a:Option Addr)(c:Nat) :
  BC prog 124 #[tV t a c,.pointer (some ⟨xb,0,none⟩)] w (BW (α:=Unit) (λ_=>.bool (Xk x t)) (λ_=>True) (λ_=>[]) w f):=by
 have hlx:=hB.lt;refine Dl (X:=X0 w f) (H:=[]) (R:=[]) (B:=[]) (Fs:=[]) (f:=f) func124 rfl rfl rfl (C8 hv tQ tQ)<|go I9 12 [0] (λb1=>y<|λ_=>Ba 7 rfl rfl (λh1=>?_) (λh1=>?_));refine go I9 9 [] (λ_=>?_)
 cases t with
 |var m=>cases h1
 |con tx k=>exact Bc (DI rfl rfl) (λw f hM=>⟨(),f,rfl,tQ,hM.exm,tQ⟩)
 refine go I9 2 [0] (y<|λ_=>EU rfl rfl (λw f hM=>Al rfl Dd ((hM.stp.block xb hlx (λh=>h)).trans hB) rfl)<|go I9 6 [] (λ_=>?_))
 cases t with
 |var m=>exact Bc (DI rfl rfl) (λw f hM=>⟨(),f,rfl,tQ,hM.exm,tQ⟩)
 |con tx k=>cases h1
theorem Rs(k:Nat)(ih:∀j,j<k→rQ prog 107 130 124 j)(w:World)(f:Fq)(hv:Vl w f)(sb mb:Nat)(s:BX)(fr pr:Int)(xb:Nat)(x:Int)(hS:BQ 130 sb mb s fr pr w f)(hw:J3 s)(hB:AT w xb [.int .i64 x] 3)(t:T1)(a:Option Addr)(c jj:Nat)(hb:t.bnd)(hT:Ah w f t.kids a c)(hfin:BH s k t.one=some jj) :
  BC prog 107 #[.pointer (some ⟨sb,0,none⟩),tV t a c,.func (.func 124) #[] #[.pointer (some ⟨xb,0,none⟩)]] w (BW (α:=Unit) (λ_=>.bool (Dg s x k t.one)) (λ_=>True) (λ_=>[]) w f):=by
 have hkb:=(C7 hw hb).1;have hlx:=hB.lt;obtain⟨k2,rfl⟩:∃q,k=q+1:=by cases k with|zero=>rw[L2] at hfin;cases hfin|succ q=>exact⟨q,rfl⟩
 have hk3:BH s k2 (Ai s t).kids=some jj:=by rw[← Kz];exact hfin
 refine Dl (X:=X0 w f) (H:=[]) (R:=[]) (B:=[]) (Fs:=[λw f=>Ah w f t.kids a c]) (f:=f) func107 rfl rfl rfl (C8 hv ⟨hT,tQ⟩ ⟨Ah.mono,tQ⟩)<|go I9 10 [0] (λb1=>y<|λ_=>BA rfl rfl (eC Jo rfl rfl) (λw f hM=>Ev w f hM.vl sb mb s fr pr (BQ.keep hS hM.exm hM.ent (λh=>h) (λh=>h)) hw t a c hb hM.f0) (λx=>⟨Ah.mono,tQ⟩) ?_);rintro⟨ha,hc⟩ -;refine go I9 8 [0,0] (y<|y<|λ_=>BA rfl rfl (λ_=>Uh (caps:=[.pointer (some ⟨xb,0,none⟩)]) bR rfl rfl) (λw f hM=>Un w f hM.vl xb x ((hM.stp.block xb hlx (λh=>h)).trans hB) (Ai s t) ha hc) (λx=>trivial) ?_);rintro⟨⟩ -;refine go I9 3 [] (λ_=>Ba 15 rfl rfl (λh1=>?_) (λh1=>?_));replace h1:=Gg h1;refine go I9 8 [] (λ_=>?_);have hres:Dg s x (k2+1) t.one=false:=by rw[JD,h1];rfl
 exact Bc (DI rfl rfl) (λw f hM=>⟨(),f,(by rw[hres]),tQ,hM.exm,tQ⟩);replace h1:=Gs h1;refine go I9 11 [0] (y<|λ_=>Ba 18 rfl rfl (λh2=>?_) (λh2=>?_));refine go I9 10 [0] (y<|λ_=>?_);refine HK (α:=Nat×Ty×Nat) (λy=>y.2.1.len) (λy=>y.1+y.2.1.len=(Ai s t).kids.len∧BH s k2 (Ai s t).kids=BH s y.2.2 y.2.1∧y.2.2≤k2∧y.2.1.bnd∧Dg s x k2 (Ai s t).kids=Dg s x y.2.2 y.2.1) (λy=>(E6 0 (.pointer (some ⟨sb,0,none⟩)) 2 (.func (.func 124) #[] #[.pointer (some ⟨xb,0,none⟩)]) 4 (.pointer (some ⟨b1,0,none⟩)) 20 (.slice ha (Ai s t).kids.len hc) 21 (.int .i64 ((Ai s t).kids.len:Int)) 22 (.int .i64 (y.1:Int)))) (λy=>X0 w f) (λy=>[⟨b1,tC (Ai s t) ha hc,57,true⟩]) (λy=>[]) (λy=>[]) (λy=>[λw f=>AZ w f ha y.1 y.2.1]) (0,(Ai s t).kids,k2) ⟨by simp,rfl,Nat.le_refl _,(C7 hw hb).2,rfl⟩ lE (λw f hM=>hM.more (B':=[]) (F':=[λw f=>AZ w f ha 0 (Ai s t).kids]) nE (A2.mem ⟨Ah.at hM.f0,tQ⟩) (Af.mem ⟨AZ.mono,tQ⟩) |>.less (H':=[⟨b1,tC (Ai s t) ha hc,57,true⟩]) (R':=[]) (B':=[]) (F':=[λw f=>AZ w f ha 0 (Ai s t).kids]) sR sR nE (mR [0])) ?_;rintro⟨i,r,j⟩ ⟨hi,hrem,hjk,hrb,hfr⟩;dsimp only at hi hrem hjk hrb hfr ⊢;refine go I9 6 [] (λ_=>Ba 23 rfl rfl (λh3=>?_) (λh3=>?_));refine go I9 6 [] (λ_=>?_);have hil:i<(Ai s t).kids.len:=by have:=of_decide_eq_true h3;omega
 obtain⟨t2,r,rfl⟩:=Ty.cases1 r oM;rw[T1.len_cons] at hi;refine C6 (α:=Nat×Nat×Option Addr×Nat) (λx=>ha=some ⟨x.1,x.2.1,none⟩) (λx=>[⟨x.1,x.2.1+i*4,tC t2 x.2.2.1 x.2.2.2⟩]) (λx=>[λw f=>Ah w f t2.kids x.2.2.1 x.2.2.2,λw f=>AZ w f ha (i+1) r]) (λw f hM=>let ⟨b,off,ka,kc,h1,h2,h3,h4⟩:=AZ.head hM.f0;⟨(b,off,ka,kc),h1,(oE h2),A2.mem ⟨h3,h4,tQ⟩⟩) (λx=>Af.mem ⟨Ah.mono,AZ.mono,tQ⟩) ?_;rintro⟨eb,eo,ka,kc⟩ rfl;refine go I9 12 [100,0,0,0] (And.intro oM<|y2<|λb2=>y<|y<|λ_=>?_);obtain⟨j2,hj2⟩:∃q,BH s j t2.one=some q:=by cases hx:BH s j t2.one with|some q=>exact⟨q,rfl⟩|none=>rw[hrem,JW,hx] at hk3;cases hk3
 refine BA rfl rfl (eC MZ rfl rfl) (λw f hM=>ih j oM w f hM.vl sb mb s fr pr xb x (BQ.keep hS hM.exm hM.ent (λh=>h) (λh=>h)) hw ((hM.stp.block xb hlx (λh=>h)).trans hB) t2 ka kc j2 (T1.bnd_cons.1 hrb).1 hM.f0 hj2) (λx=>trivial) ?_;rintro⟨⟩ -;refine go I9 3 [] (λ_=>Ba 30 rfl rfl (λh4=>?_) (λh4=>?_));replace h4:=Gg h4;refine go I9 9 [] (λ_=>fD<|go I9 2 [] (λ_=>?_));have hres:Dg s x (k2+1) t.one=false:=by rw[JD,hfr,PC hj2,h4];simp
 exact Bc (DI rfl rfl) (λw f hM=>⟨(),f,(by rw[hres]),tQ,hM.exm,tQ⟩);replace h4:=Gs h4;exact go I9 8 [] (And.intro ⟨oM,oM⟩<|λ_=>DM ((i+1,r,j2)) (show r.len<(t2.cons r).len by rw[T1.len_cons];omega) ⟨show i+1+r.len=(Ai s t).kids.len by omega,show BH s k2 (Ai s t).kids=BH s j2 r by rw[hrem,JW,hj2];rfl,show j2≤k2 by have:=Fe s j t2.one j2 hj2;omega,(T1.bnd_cons.1 hrb).2,show Dg s x k2 (Ai s t).kids=Dg s x j2 r by rw[hfr,PC hj2,h4];rfl⟩ lE (λw f hM=>⟨_,hM.less (H':=[⟨b1,tC (Ai s t) (some ⟨eb,eo,none⟩) hc,57,true⟩]) (R':=[]) (B':=[]) (F':=[λw f=>AZ w f (some ⟨eb,eo,none⟩) (i+1) r]) (List.sublist_cons_self _ _) sR nE (mR [1])⟩));refine go I9 3 [] (λ_=>GR<|go I9 8 [] (λ_=>?_));obtain rfl:r=.nil:=Ty.len0 (by have:=of_decide_eq_false h3;omega);have hres:Dg s x (k2+1) t.one=true:=by rw[JD,h1,hfr];cases j <;> rfl
 exact Bc (DI rfl rfl) (λw f hM=>⟨(),f,(by rw[hres]),tQ,hM.exm,tQ⟩);refine go I9 9 [] (λ_=>?_);obtain⟨n,hv2⟩:=EF (t:=Ai s t) (by have:=h2;simpa using this);have hres:Dg s x (k2+1) t.one=true:=by rw[JD,h1,hv2];cases k2 <;> rfl
 exact Bc (DI rfl rfl) (λw f hM=>⟨(),f,(by rw[hres]),tQ,hM.exm,tQ⟩)
theorem R8:∀k,rQ prog 107 130 124 k:=λk=>Nat.strongRecOn k λk ih w f hv sb mb s fr pr xb x hS hw hB t a c j hb hT hj=>Rs k ih w f hv sb mb s fr pr xb x hS hw hB t a c j hb hT hj
def wF:Eh:=⟨[(130,0,0),(130,1,1)],[],[],[],[(57,true,4),(3,false,1)],[(57,[.int .i64 0,.int .i64 0,.string ⟨#[]⟩,.slice none 0 0])],[],[(60,130)]⟩
theorem KR:wF.Ok prog:=⟨(And.intro R9 (And.intro YU tQ)),tQ,tQ,tQ,(And.intro AI (And.intro Dd tQ)),(And.intro DN tQ),tQ,(And.intro Yd tQ)⟩
theorem Mp(w:World)(f:Fq)(hv:Vl w f)(sb mb:Nat)(s:BX)(fr pr:Int)(hS:BQ 130 sb mb s fr pr w f)(hf:f sb=0∧f mb=0)(hne:sb≠mb)(hw:J3 s)(n:Int)(hun:Ce s n=none)(t:T1)(a:Option Addr)(c:Nat)(hb:t.bnd)(hT:Ah w f t.kids a c) :
  BC prog 100 #[.pointer (some ⟨sb,0,none⟩),.int .i64 n,tV t a c] w (Fv (α:=Unit) (λ_=>.int .i64 (Ke s n t).1) (λ_=>True) (MJ sb mb) (λ_=>BQ 130 sb mb (Ke s n t).2 fr pr) (λ_=>[]) w f):=by
 refine Dl (X:=XS 130 sb mb s fr pr w f) (H:=[]) (R:=[]) (B:=[]) (Fs:=[λw f=>Ah w f t.kids a c]) (f:=f) func100 rfl rfl rfl (bK hv hS hf ⟨hT,tQ⟩ ⟨Ah.mono,tQ⟩)<|go KR 12 [0] (λb1=>λb2=>y<|λ_=>BA rfl rfl (eC ZC rfl rfl) (λw f hM=>NX w f hM.vl sb mb s fr pr hM.res hw t a c hb hM.f0) (λx=>trivial) ?_);rintro⟨⟩ -;refine go KR 3 [] (λ_=>Ba 10 rfl rfl (λh1=>?_) (λh1=>?_));replace h1:=Gg h1;refine go KR 8 [] (λ_=>?_);have hr:=Xj (n:=n) h1;exact Bc (DI rfl rfl) (λw f hM=>⟨(),f,(by rw[hr]),tQ,hM.exm,(by rw[hr];exact hM.res),tQ⟩);replace h1:=Gs h1;refine go KR 8 [0] (y<|λ_=>EU rfl rfl (λw f hM=>Q5 rfl) ?_);obtain⟨j,hj⟩:∃j,BH s 1000 t.one=some j:=by have h9:=h1;rw[FD,FQ] at h9;exact Option.isSome_iff_exists.1 h9
 refine BA rfl rfl (eC MZ rfl rfl) (λw f hM=>R8 1000 w f hM.vl sb mb s fr pr b1 n hM.res hw hM.k1 t a c j hb hM.f0 hj) (λx=>trivial) ?_;rintro⟨⟩ -;refine go KR 3 [] (λ_=>Ba 15 rfl rfl (λh2=>?_) (λh2=>?_));replace h2:=Gg h2;refine go KR 8 [] (λ_=>?_);have hr:=Ym h1 h2;exact Bc (DI rfl rfl) (λw f hM=>⟨(),f,(by rw[hr]),tQ,hM.exm,(by rw[hr];exact hM.res),tQ⟩);replace h2:=Gs h2;refine go KR 4 [] (λ_=>pS (cZ 130 sb mb s fr pr) (λw f h=>let ⟨h1,es,h2,h3⟩:=h;⟨es,h1,h2,h3⟩) (λ_=>cZ.stab (.inl rfl) (.inr rfl)) ?_);intro es;refine KA (λw f hM=>(⟨Gx.dis hM.res.2.2 hw,(Gx.look hM.res.2.2 n).1 hun⟩:Lm es∧FL es n=none)) λhes=>Mx (λw=>AT w sb [.map (some mb),.int .i64 fr,.int .i64 pr] 130) (λw f h _=>h.1) [0,1] Ap (rd [0,1,2,3,4,5] (.br 6 .fin .fin)) rfl kR kR kR (λ_ _ _ _ _ h=>h)<|AA KR 3 [] (λ_=>Ik rfl rfl rfl (λw hK=>Al rfl TD hK.2.2 rfl)<|AA KR 2 [1,0] (y<|y<|λ_=>Ag rfl ?_ Aj));refine aN (K:=Fw) (a:=n) (l:=es) (I':=BQ 130 sb mb ((n,t)::s) fr pr) rfl rfl rfl rfl U0 OJ (.inr rfl) hes.1 hes.2 (λw f h=>h.2.1) (λw f w2 h hM hC hm=>⟨(hC.block sb hne).trans h.1,_,hm,a,c,es,rfl,Ah.mono _ _ _ _ hM.f0 (hC.fle (hM.mi mb (.inr rfl)).2.1),Gx.mono (hC.fle (hM.mi mb (.inr rfl)).2.1) s es h.2.2⟩) (BQ.stab (.inl rfl) (.inr rfl))<|go KR 1 [] (λ_=>Bj [0,1] (λw f h _=>h.1) rfl (λ_ h=>h)<|B4<|go KR 7 [] (λ_=>?_));have hr:=Y4 h1 h2;exact Bc (DI rfl rfl) (λw f hM=>⟨(),f,(by rw[hr]),tQ,hM.exm,(by rw[hr];exact hM.res),tQ⟩)
theorem NN(w:World)(f:Fq)(hv:Vl w f)(sb mb:Nat)(s:BX)(fr pr:Int)(hS:BQ 130 sb mb s fr pr w f)(hf:f sb=0∧f mb=0)(hne:sb≠mb)  (hfr:0≤fr∧fr<1000000000000) :
  BC prog 55 #[.pointer (some ⟨sb,0,none⟩)] w (Fv (α:=Unit) (λ_=>tV (.var (fr+1)) none 0) (λ_=>True) (MJ sb mb) (λ_=>BQ 130 sb mb s (fr+1) pr) (λ_=>[]) w f):=by
 refine Dl (X:=XS 130 sb mb s fr pr w f) (H:=[]) (R:=[]) (B:=[]) (Fs:=[]) (f:=f) func55 rfl rfl rfl (bK hv hS hf tQ tQ)<|go KR 20 [] (λb1=>λ_=>EU rfl rfl (λw f hM=>Al rfl Dd hM.res.1 rfl)<|go KR 3 [] (And.intro ⟨oM,oM⟩<|λ_=>aK (b:=sb) (I':=BQ 130 sb mb s (fr+1) pr) rfl rfl rfl rfl Dd rfl rfl rfl (.inl rfl) (λw f h=>h.1) (λw f w2 h hM hC hb=>⟨hb,let ⟨_,es,h2,h3⟩:=h;⟨es,h2.heap (hC.block mb (λe=>hne e.symm)),Gx.mono (hC.fle (hM.mi sb (.inl rfl)).2.1) s es h3⟩⟩) (BQ.stab (.inl rfl) (.inr rfl))<|go KR 7 [] (λ_=>EU rfl rfl (λw f hM=>Al rfl Dd hM.res.1 rfl)<|BA rfl rfl (eC Hu rfl rfl) (λw f hM=>Ek w f hM.vl (fr+1)) (λx=>trivial) ?_)));rintro⟨⟩ -;exact go KR 4 [0] (y<|λ_=>Bc (λw f hM=>AJ rfl (Ac rfl AI hM.k0 rfl)) (λw f hM=>⟨(),f,rfl,tQ,hM.exm,hM.res,tQ⟩))
def wC:Eh:=⟨[(130,2,2),(57,0,0),(57,1,1),(57,2,2),(57,3,3)],[(53,57,4)],[],[],[(3,false,1),(57,true,4),(9,false,1),(53,false,1)],[],[],[]⟩
theorem Ct:wC.Ok prog:=⟨(And.intro SY (And.intro HS (And.intro Jq (And.intro QV (And.intro FH tQ))))),(And.intro DT tQ),tQ,tQ,(And.intro Dd (And.intro AI (And.intro GX (And.intro Hs tQ)))),tQ,tQ,tQ⟩
theorem Xr(k:Nat)(ih:∀j,j<k→gG prog 72 130 j)(w:World)(f:Fq)(hv:Vl w f)(sb mb:Nat)(s:BX)(fr:Int)(hS:BQ 130 sb mb s fr (10000-(k:Int)) w f)(hf:f sb=0∧f mb=0)(hne:sb≠mb)(hw:J3 s)(hk:k≤10000)(t u:T1)(a:Option Addr)(c:Nat)(a2:Option Addr)(c2:Nat)(hbt:t.bnd)(hbu:u.bnd)(hT:Ah w f t.kids a c)(hU:Ah w f u.kids a2 c2) :
  BC prog 72 #[.pointer (some ⟨sb,0,none⟩),tV t a c,tV u a2 c2] w (Fv (α:=Int×BX×Int) (λx=>.int .i64 x.1) (λx=>(∀z,Hd k s t.one u.one=.ok z→x.1=0∧x.2.1=z.2∧x.2.2=10000-(z.1:Int)∧J3 z.2)∧∀e,Hd k s t.one u.one=.error e→x.1=e∧e≠0) (MJ sb mb) (λx=>BQ 130 sb mb x.2.1 fr x.2.2) (λ_=>[]) w f):=by
 have hkt:=(C7 hw hbt).1;have hku:=(C7 hw hbu).1;refine Dl (X:=XS 130 sb mb s fr (10000-(k:Int)) w f) (H:=[]) (R:=[]) (B:=[]) (Fs:=[λw f=>Ah w f t.kids a c,λw f=>Ah w f u.kids a2 c2]) (f:=f) func72 rfl rfl rfl (bK hv hS hf ⟨hT,hU,tQ⟩ ⟨Ah.mono,Ah.mono,tQ⟩)<|go Ct 13 [] (λb1=>λb2=>λ_=>EU rfl rfl (λw f hM=>Al rfl Dd hM.res.1 rfl)<|go Ct 3 [] (λ_=>Ba 13 rfl rfl (λh1=>?_) (λh1=>?_)));refine go Ct 8 [] (λ_=>?_);obtain rfl:k=0:=by have h9:=beq_iff_eq.1 h1;omega
 have hun:=dY s t u;exact Bc (DI rfl rfl) (λw f hM=>⟨(4,s,_),f,rfl,⟨λz h=>(by rw[hun] at h;cases h),λe h=>(by rw[hun] at h;cases h;exact⟨rfl,dC⟩)⟩,hM.exm,hM.res,tQ⟩);refine go Ct 4 [] (λ_=>?_);obtain⟨k2,rfl⟩:∃q,k=q+1:=⟨k-1,by have h9:=h1;have:¬(10000-(k:Int))=10000:=(by simpa using h9);omega⟩;refine go Ct 4 [] (λ_=>EU rfl rfl (λw f hM=>Al rfl Dd hM.res.1 rfl)<|go Ct 3 [] (And.intro ⟨oM,oM⟩<|λ_=>aK (b:=sb) (I':=BQ 130 sb mb s fr (10000-(k2:Int))) rfl rfl rfl rfl Dd rfl rfl rfl (.inl rfl) (λw f h=>h.1) (λw f w2 h hM hC hb=>(by rw[show (10000-((k2+1:Nat):Int)+1)=10000-(k2:Int) by omega] at hb;exact⟨hb,let ⟨_,es,h2,h3⟩:=h;⟨es,h2.heap (hC.block mb (λe=>hne e.symm)),Gx.mono (hC.fle (hM.mi sb (.inl rfl)).2.1) s es h3⟩⟩)) (BQ.stab (.inl rfl) (.inr rfl))<|go Ct 3 [] (λ_=>?_)));refine Wk (α:=Option Addr×Nat×Option Addr×Nat) (λx=>True) (λx=>(E3 0 (.pointer (some ⟨sb,0,none⟩)) 4 (.pointer (some ⟨b1,0,none⟩)) 5 (.pointer (some ⟨b2,0,none⟩)))) (λx=>⟨MJ sb mb,MJ sb mb,BQ 130 sb mb s fr (10000-(k2:Int)),w,f⟩) (λx=>[⟨b2,tC (Ai s u) x.2.2.1 x.2.2.2,57,true⟩,⟨b1,tC (Ai s t) x.1 x.2.1,57,true⟩]) (λx=>[]) (λx=>[]) (λx=>[λw f=>Ah w f (Ai s t).kids x.1 x.2.1,λw f=>Ah w f (Ai s u).kids x.2.2.1 x.2.2.2]) ?_ ?_;refine Dp [] Ap (.rd 0 (.rd 3 (.br 1 (.br 2 (.br 4 (.br 5 (.br 6 (.br 7 .fin .fin) .fin) .fin) .fin) (.br 4 (.br 2 (.br 5 (.br 6 (.br 7 .fin .fin) .fin) .fin) .fin) .fin)) (.br 4 (.br 1 (.br 2 (.br 5 (.br 6 (.br 7 .fin .fin) .fin) .fin) .fin) .fin) .fin)))) rfl kR<|AA Ct 2 [] (λ_=>Ag rfl ?_ ?_);refine go Ct 2 [1] (y<|λ_=>Ax [] rfl<|Ag rfl ?_ ?_);refine BA rfl rfl (eC Jo rfl rfl) (λw f hM=>Ev w f hM.vl sb mb s fr (10000-(k2:Int)) hM.res hw t a c hbt hM.f0) (λx=>⟨Ah.mono,tQ⟩) ?_;rintro⟨ha,hc⟩ -;refine go Ct 1 [] (λ_=>Ax [] rfl<|Ag rfl ?_ Aj);refine go Ct 2 [0] (y<|λ_=>Ax [] rfl<|Ag rfl ?_ Aj);refine BA rfl rfl (eC Jo rfl rfl) (λw f hM=>Ev w f hM.vl sb mb s fr (10000-(k2:Int)) hM.res hw u a2 c2 hbu hM.f2) (λx=>⟨Ah.mono,tQ⟩) ?_;rintro⟨ga,gc⟩ -;refine go Ct 1 [] (λ_=>Ax [] rfl<|Ag rfl ?_ Aj);refine go Ct 2 [1] (y<|λ_=>Ax [] rfl<|Ag rfl ?_ Aj);exact go Ct 2 [0] (y<|λ_=>Ax [] rfl<|B4<|LQ (ha,hc,ga,gc) tQ lE (λw f hM=>⟨f,hM.less sR sR (λ_ h=>h) (mR [1,0])⟩));refine Ag rfl ?_ Aj;refine go Ct 2 [0] (y<|λ_=>Ax [] rfl<|Ag rfl ?_ Aj);refine BA rfl rfl (eC Jo rfl rfl) (λw f hM=>Ev w f hM.vl sb mb s fr (10000-(k2:Int)) hM.res hw t a c hbt hM.f0) (λx=>⟨Ah.mono,tQ⟩) ?_;rintro⟨ha,hc⟩ -;refine go Ct 1 [] (λ_=>Ax [] rfl<|Ag rfl ?_ Aj);refine BA rfl rfl (eC Jo rfl rfl) (λw f hM=>Ev w f hM.vl sb mb s fr (10000-(k2:Int)) hM.res hw u a2 c2 hbu hM.f2) (λx=>⟨Ah.mono,tQ⟩) ?_;rintro⟨ga,gc⟩ -;refine go Ct 1 [] (λ_=>Ax [] rfl<|Ag rfl ?_ Aj);refine go Ct 2 [1] (y<|λ_=>Ax [] rfl<|Ag rfl ?_ Aj);exact go Ct 2 [0] (y<|λ_=>Ax [] rfl<|B4<|LQ (ha,hc,ga,gc) tQ lE (λw f hM=>⟨f,hM.less sR sR (λ_ h=>h) (mR [1,0])⟩));refine Ag rfl ?_ Aj
 refine go Ct 2 [0] (y<|λ_=>Ax [] rfl<|Ag rfl ?_ Aj);refine go Ct 2 [1] (y<|λ_=>Ax [] rfl<|Ag rfl ?_ Aj);refine BA rfl rfl (eC Jo rfl rfl) (λw f hM=>Ev w f hM.vl sb mb s fr (10000-(k2:Int)) hM.res hw t a c hbt hM.f0) (λx=>⟨Ah.mono,tQ⟩) ?_;rintro⟨ha,hc⟩ -;refine go Ct 1 [] (λ_=>Ax [] rfl<|Ag rfl ?_ Aj);refine BA rfl rfl (eC Jo rfl rfl) (λw f hM=>Ev w f hM.vl sb mb s fr (10000-(k2:Int)) hM.res hw u a2 c2 hbu hM.f2) (λx=>⟨Ah.mono,tQ⟩) ?_;rintro⟨ga,gc⟩ -;refine go Ct 1 [] (λ_=>Ax [] rfl<|Ag rfl ?_ Aj);refine go Ct 2 [1] (y<|λ_=>Ax [] rfl<|Ag rfl ?_ Aj);exact go Ct 2 [0] (y<|λ_=>Ax [] rfl<|B4<|LQ (ha,hc,ga,gc) tQ lE (λw f hM=>⟨f,hM.less sR sR (λ_ h=>h) (mR [1,0])⟩));rintro⟨ha,hc,ga,gc⟩ -;dsimp only;refine go Ct 9 [1] (y<|λ_=>Ba 31 rfl rfl (λh2=>?_) (λh2=>?_));refine go Ct 5 [0] (y<|λ_=>Ba 36 rfl rfl (λh3=>?_) (λh3=>?_));refine go Ct 9 [1,0] (y<|y<|λ_=>Ba 27 rfl rfl (λh4=>?_) (λh4=>?_));refine go Ct 9 [] (λ_=>?_);obtain⟨n,hn⟩:=EF h2;obtain⟨m,hm⟩:=EF h3;have hun:Hd (k2+1) s t.one u.one=.ok (k2,s):=by rw[KU,hn,hm];simp only[Ln];rw[if_pos (by have h9:=h4;rw[hn,hm] at h9;exact h9)];cases k2 <;> rfl
 exact Bc (DI rfl rfl) (λw f hM=>⟨(0,s,_),f,rfl,⟨λz h=>(by rw[hun] at h;cases h;exact⟨rfl,rfl,rfl,hw⟩),λe h=>(by rw[hun] at h;cases h)⟩,hM.exm,hM.res,tQ⟩);refine go Ct 9 [1] (y<|λ_=>tM 43 true rfl rfl h2<|go Ct 7 [1,0] (y<|y<|λ_=>?_));obtain⟨n,hn⟩:=EF h2;refine OM (XX:=λ_ _=>False) rfl rfl (eC Ra rfl rfl) (λw f hM=>(Mp w f hM.vl sb mb s fr (10000-(k2:Int)) hM.res ⟨(hM.mi sb (.inl rfl)).2.1,(hM.mi mb (.inr rfl)).2.1⟩ hne hw (Ai s t).num (by rw[hn];exact FP hw hn) (Ai s u) ga gc (C7 hw hbu) hM.f1).retP) (λ_=>(BQ.stab (.inl rfl) (.inr rfl))) (λ_=>trivial) (λ_ _ _ _ _ h=>h.elim) ?_;rintro⟨⟩ -;refine go Ct 6 [] (λ_=>?_)
 have hun:Hd (k2+1) s t.one u.one=(match CE s n (Ai s u) with|.error e=>.error e|.ok b=>.ok (k2,b)):=by
  rw[KU,hn]
  cases hm:(Ai s u) with
  |var m=>simp only[Ln];rw[if_neg (by have h9:=h4;rw[hn,hm] at h9;simp only[T1.num] at h9;rw[h9];simp)];cases CE s n (.var m) with|error e=>rfl|ok b=>cases k2 <;> rfl
  |con ty kb=>simp only[Ln];cases CE s n (.con ty kb) with|error e=>rfl|ok b=>cases k2 <;> rfl
 have hnum:(Ai s t).num=n:=by rw[hn];rfl
 have hbr:Ke s (Ai s t).num (Ai s u)=(match CE s n (Ai s u) with|.error e=>(e,s)|.ok b=>(0,b)):=by rw[hnum];rfl
 cases hb9:CE s n (Ai s u) with
 |error er=>rw[hb9] at hun hbr;exact Bc (DI rfl rfl) (λw f hM=>⟨(er,s,_),f,(by rw[hbr]),⟨λz h=>(by rw[hun] at h;cases h),λe h=>(by rw[hun] at h;cases h;exact⟨rfl,PZ hb9⟩)⟩,hM.exm,(by have h7:=hM.res;rw[hbr] at h7;exact h7),tQ⟩)
 |ok b9=>rw[hb9] at hun hbr;exact Bc (DI rfl rfl) (λw f hM=>⟨(0,b9,_),f,(by rw[hbr]),⟨λz h=>(by rw[hun] at h;cases h;exact⟨rfl,rfl,rfl,Q4 hw (FP hw hn) (Ms hw _) (C7 hw hbu) hb9⟩),λe h=>(by rw[hun] at h;cases h)⟩,hM.exm,(by have h7:=hM.res;rw[hbr] at h7;exact h7),tQ⟩)
 refine go Ct 18 [1] (y<|λ_=>tM 43 true rfl rfl h2<|go Ct 7 [1,0] (y<|y<|λ_=>?_));obtain⟨n,hn⟩:=EF h2;refine OM (XX:=λ_ _=>False) rfl rfl (eC Ra rfl rfl) (λw f hM=>(Mp w f hM.vl sb mb s fr (10000-(k2:Int)) hM.res ⟨(hM.mi sb (.inl rfl)).2.1,(hM.mi mb (.inr rfl)).2.1⟩ hne hw (Ai s t).num (by rw[hn];exact FP hw hn) (Ai s u) ga gc (C7 hw hbu) hM.f1).retP) (λ_=>(BQ.stab (.inl rfl) (.inr rfl))) (λ_=>trivial) (λ_ _ _ _ _ h=>h.elim) ?_;rintro⟨⟩ -;refine go Ct 6 [] (λ_=>?_)
 have hun:Hd (k2+1) s t.one u.one=(match CE s n (Ai s u) with|.error e=>.error e|.ok b=>.ok (k2,b)):=by
  rw[KU,hn]
  cases hm:(Ai s u) with
  |var m=>simp only[Ln];rw[if_neg (by have h9:=h3;rw[hm] at h9;cases h9)];cases CE s n (.var m) with|error e=>rfl|ok b=>cases k2 <;> rfl
  |con ty kb=>simp only[Ln];cases CE s n (.con ty kb) with|error e=>rfl|ok b=>cases k2 <;> rfl
 have hnum:(Ai s t).num=n:=by rw[hn];rfl
 have hbr:Ke s (Ai s t).num (Ai s u)=(match CE s n (Ai s u) with|.error e=>(e,s)|.ok b=>(0,b)):=by rw[hnum];rfl
 cases hb9:CE s n (Ai s u) with
 |error er=>rw[hb9] at hun hbr;exact Bc (DI rfl rfl) (λw f hM=>⟨(er,s,_),f,(by rw[hbr]),⟨λz h=>(by rw[hun] at h;cases h),λe h=>(by rw[hun] at h;cases h;exact⟨rfl,PZ hb9⟩)⟩,hM.exm,(by have h7:=hM.res;rw[hbr] at h7;exact h7),tQ⟩)
 |ok b9=>rw[hb9] at hun hbr;exact Bc (DI rfl rfl) (λw f hM=>⟨(0,b9,_),f,(by rw[hbr]),⟨λz h=>(by rw[hun] at h;cases h;exact⟨rfl,rfl,rfl,Q4 hw (FP hw hn) (Ms hw _) (C7 hw hbu) hb9⟩),λe h=>(by rw[hun] at h;cases h)⟩,hM.exm,(by have h7:=hM.res;rw[hbr] at h7;exact h7),tQ⟩)
 refine go Ct 23 [1] (y<|λ_=>tM 43 false rfl rfl h2<|go Ct 9 [0] (y<|λ_=>Ba 52 rfl rfl (λh5=>?_) (λh5=>?_)));refine go Ct 7 [0,1] (y<|y<|λ_=>?_);obtain⟨n,hn⟩:=EF h5;refine OM (XX:=λ_ _=>False) rfl rfl (eC Ra rfl rfl) (λw f hM=>(Mp w f hM.vl sb mb s fr (10000-(k2:Int)) hM.res ⟨(hM.mi sb (.inl rfl)).2.1,(hM.mi mb (.inr rfl)).2.1⟩ hne hw (Ai s u).num (by rw[hn];exact FP hw hn) (Ai s t) ha hc (C7 hw hbt) hM.f0).retP) (λ_=>(BQ.stab (.inl rfl) (.inr rfl))) (λ_=>trivial) (λ_ _ _ _ _ h=>h.elim) ?_;rintro⟨⟩ -;refine go Ct 6 [] (λ_=>?_)
 have hun:Hd (k2+1) s t.one u.one=(match CE s n (Ai s t) with|.error e=>.error e|.ok b=>.ok (k2,b)):=by
  rw[KU,hn];obtain⟨tx,ka,hTc⟩:=Ga h2;rw[hTc];simp only[Ln]
  cases CE s n (.con tx ka) with|error e=>rfl|ok b=>cases k2 <;> rfl
 have hnum:(Ai s u).num=n:=by rw[hn];rfl
 have hbr:Ke s (Ai s u).num (Ai s t)=(match CE s n (Ai s t) with|.error e=>(e,s)|.ok b=>(0,b)):=by rw[hnum];rfl
 cases hb9:CE s n (Ai s t) with
 |error er=>rw[hb9] at hun hbr;exact Bc (DI rfl rfl) (λw f hM=>⟨(er,s,_),f,(by rw[hbr]),⟨λz h=>(by rw[hun] at h;cases h),λe h=>(by rw[hun] at h;cases h;exact⟨rfl,PZ hb9⟩)⟩,hM.exm,(by have h7:=hM.res;rw[hbr] at h7;exact h7),tQ⟩)
 |ok b9=>rw[hb9] at hun hbr;exact Bc (DI rfl rfl) (λw f hM=>⟨(0,b9,_),f,(by rw[hbr]),⟨λz h=>(by rw[hun] at h;cases h;exact⟨rfl,rfl,rfl,Q4 hw (FP hw hn) (Ms hw _) (C7 hw hbt) hb9⟩),λe h=>(by rw[hun] at h;cases h)⟩,hM.exm,(by have h7:=hM.res;rw[hbr] at h7;exact h7),tQ⟩)
 refine go Ct 9 [1,0] (y<|y<|λ_=>Ba 67 rfl rfl (λh6=>?_) (λh6=>?_));refine go Ct 20 [] (λ_=>?_);obtain⟨tx,ka,hTc⟩:=Ga h2;obtain⟨ty,kb,hUc⟩:=Ga h5;have hun:Hd (k2+1) s t.one u.one=.error 11:=by rw[KU,hTc,hUc];simp only[Ln];rw[if_pos (by have h8:=h6;rw[hTc,hUc] at h8;simp only[T1.tx] at h8;rw[h8];rfl)]
 exact Bc (DI rfl rfl) (λw f hM=>⟨(11,s,_),f,rfl,⟨λz h=>(by rw[hun] at h;cases h),λe h=>(by rw[hun] at h;cases h;exact⟨rfl,dC⟩)⟩,hM.exm,hM.res,tQ⟩);refine go Ct 11 [1,0] (y<|y<|λ_=>Ba 61 rfl rfl (λh7=>?_) (λh7=>?_));refine go Ct 9 [] (λ_=>?_);obtain⟨tx,ka,hTc⟩:=Ga h2;obtain⟨ty,kb,hUc⟩:=Ga h5;have hun:Hd (k2+1) s t.one u.one=.error 11:=by rw[KU,hTc,hUc];simp only[Ln];rw[if_pos (by have h9:=h7;rw[hTc,hUc] at h9;simp only[T1.kids] at h9;rw[h9];simp)]
 exact Bc (DI rfl rfl) (λw f hM=>⟨(11,s,_),f,rfl,⟨λz h=>(by rw[hun] at h;cases h),λe h=>(by rw[hun] at h;cases h;exact⟨rfl,dC⟩)⟩,hM.exm,hM.res,tQ⟩);refine go Ct 6 [] (λ_=>?_);obtain⟨tx,ka,hTc⟩:=Ga h2;obtain⟨ty,kb,hUc⟩:=Ga h5;have hlen:(Ai s t).kids.len=(Ai s u).kids.len:=by have h9:(((Ai s t).kids.len:Int) != (Ai s u).kids.len)=false:=h7;simp at h9;omega
 have hun:Hd (k2+1) s t.one u.one=Hd k2 s (Ai s t).kids (Ai s u).kids:=by rw[KU];rw[hTc,hUc];simp only[Ln,T1.kids];rw[if_neg (by have h8:=h6;have h9:=h7;rw[hTc,hUc] at h8 h9;simp only[T1.tx,T1.kids] at h8 h9;rw[h8,h9];simp),Ty.app_nil,Ty.app_nil]
 refine go Ct 8 [1] (y<|λ_=>?_);refine HK (α:=Nat×Ty×Ty×Nat×BX) (λx=>x.2.1.len) (λx=>x.1+x.2.1.len=(Ai s t).kids.len∧x.2.2.1.len=x.2.1.len∧Hd k2 s (Ai s t).kids (Ai s u).kids=Hd x.2.2.2.1 x.2.2.2.2 x.2.1 x.2.2.1∧x.2.2.2.1≤k2∧J3 x.2.2.2.2∧x.2.1.bnd∧x.2.2.1.bnd) (λx=>(E5 0 (.pointer (some ⟨sb,0,none⟩)) 4 (.pointer (some ⟨b1,0,none⟩)) 5 (.pointer (some ⟨b2,0,none⟩)) 78 (.int .i64 ((Ai s t).kids.len:Int)) 79 (.int .i64 (x.1:Int)))) (λx=>⟨MJ sb mb,MJ sb mb,BQ 130 sb mb x.2.2.2.2 fr (10000-(x.2.2.2.1:Int)),w,f⟩) (λx=>[⟨b2,tC (Ai s u) ga gc,57,true⟩,⟨b1,tC (Ai s t) ha hc,57,true⟩]) (λx=>[]) (λx=>[]) (λx=>[λw f=>AZ w f ha x.1 x.2.1,λw f=>AZ w f ga x.1 x.2.2.1]) (0,(Ai s t).kids,(Ai s u).kids,k2,s) ⟨by simp,hlen.symm,rfl,Nat.le_refl _,hw,(C7 hw hbt).2,(C7 hw hbu).2⟩ lE (λw f hM=>hM.more (B':=[]) (F':=[λw f=>AZ w f ha 0 (Ai s t).kids,λw f=>AZ w f ga 0 (Ai s u).kids]) nE (A2.mem ⟨Ah.at hM.f0,Ah.at hM.f1,tQ⟩) (Af.mem ⟨AZ.mono,AZ.mono,tQ⟩) |>.less (H':=[⟨b2,tC (Ai s u) ga gc,57,true⟩,⟨b1,tC (Ai s t) ha hc,57,true⟩]) (R':=[]) (B':=[]) (F':=[λw f=>AZ w f ha 0 (Ai s t).kids,λw f=>AZ w f ga 0 (Ai s u).kids]) sR sR nE (mR [0,1])) ?_;rintro⟨i,r,q,j,s2⟩ ⟨hi,hq,hrun,hjk,hw2,hrb,hqb⟩;dsimp only at hi hq hrun hjk hw2 hrb hqb ⊢;refine go Ct 6 [] (λ_=>Ba 80 rfl rfl (λh8=>?_) (λh8=>?_));refine go Ct 12 [] (λ_=>?_);have hil:i<(Ai s t).kids.len:=by have:=of_decide_eq_true h8;omega
 obtain⟨t2,r,rfl⟩:=Ty.cases1 r oM;rw[T1.len_cons] at hi hq;obtain⟨u2,q,rfl⟩:=Ty.cases1 q oM;rw[T1.len_cons] at hq;refine C6 (α:=Nat×Nat×Option Addr×Nat) (λx=>ha=some ⟨x.1,x.2.1,none⟩) (λx=>[⟨x.1,x.2.1+i*4,tC t2 x.2.2.1 x.2.2.2⟩]) (λx=>[λw f=>Ah w f t2.kids x.2.2.1 x.2.2.2,λw f=>AZ w f ha (i+1) r]) (λw f hM=>let ⟨b,off,ka,kc,h1,h2,h3,h4⟩:=AZ.head hM.f0;⟨(b,off,ka,kc),h1,(oE h2),A2.mem ⟨h3,h4,tQ⟩⟩) (λx=>Af.mem ⟨Ah.mono,AZ.mono,tQ⟩) ?_;rintro⟨eb,eo,ea,ec⟩ rfl;refine C6 (α:=Nat×Nat×Option Addr×Nat) (λx=>ga=some ⟨x.1,x.2.1,none⟩) (λx=>[⟨x.1,x.2.1+i*4,tC u2 x.2.2.1 x.2.2.2⟩]) (λx=>[λw f=>Ah w f u2.kids x.2.2.1 x.2.2.2,λw f=>AZ w f ga (i+1) q]) (λw f hM=>let ⟨b,off,ka,kc,h1,h2,h3,h4⟩:=AZ.head hM.f3;⟨(b,off,ka,kc),h1,(oE h2),A2.mem ⟨h3,h4,tQ⟩⟩) (λx=>Af.mem ⟨Ah.mono,AZ.mono,tQ⟩) ?_;rintro⟨pb,po,pa,pc⟩ rfl;refine Dp [0,1] Ap (rd [0,1,2,3,4,5,6,7,8,9,10] (.br 11 (.rd 12 .fin) .fin)) rfl kR<|AA Ct 11 [1,101,0,0,100,0] (y<|And.intro oM<|y2<|y<|And.intro oM<|y2<|λ_=>Ag rfl ?_ Aj);refine OM (XX:=λ_ _=>False) rfl rfl (eC XP rfl rfl) (λw f hM=>(ih j oM w f hM.vl sb mb s2 fr hM.res ⟨(hM.mi sb (.inl rfl)).2.1,(hM.mi mb (.inr rfl)).2.1⟩ hne hw2 oM t2 u2 ea ec pa pc (T1.bnd_cons.1 hrb).1 (T1.bnd_cons.1 hqb).1 hM.f2 hM.f0).retP) (λ_=>(BQ.stab (.inl rfl) (.inr rfl))) (λ_=>trivial) (λ_ _ _ _ _ h=>h.elim) ?_;rintro⟨cd,s3,pr3⟩ ⟨hok,herr⟩;refine go Ct 1 [] (λ_=>Ax [0,1] rfl<|AA Ct 1 [] (λ_=>B4<|go Ct 7 [] (λ_=>Ba 95 rfl rfl (λh9=>?_) (λh9=>?_))));obtain⟨er,her⟩:∃e,Hd j s2 t2.one u2.one=.error e:=by cases hx:Hd j s2 t2.one u2.one with|error e=>exact⟨e,rfl⟩|ok z=>have g9:=(hok z hx).1;rw[g9] at h9;cases h9
 refine go Ct 10 [] (λ_=>fD<|go Ct 2 [] (λ_=>?_));have hun2:Hd (k2+1) s t.one u.one=.error er:=by rw[hun,hrun,Rr _ _ _ _ _ _ (by omega),her];rfl
 exact Bc (DI rfl rfl) (λw f hM=>⟨(cd,s3,pr3),f,rfl,⟨λz h=>(by rw[hun2] at h;cases h),λe h=>(by rw[hun2] at h;cases h;exact herr _ her)⟩,hM.exm,hM.res,tQ⟩);obtain⟨z,hz⟩:∃z,Hd j s2 t2.one u2.one=.ok z:=by cases hx:Hd j s2 t2.one u2.one with|ok z=>exact⟨z,rfl⟩|error e=>have g9:=herr e hx;have g8:cd=0:=(by simpa using h9);exact absurd (g9.1.symm.trans g8) g9.2
 obtain⟨hz1,hz2,hz3,hz4⟩:=hok z hz;exact go Ct 8 [] (And.intro ⟨oM,oM⟩<|λ_=>DM ((i+1,r,q,z.1,z.2)) (show r.len<(t2.cons r).len by rw[T1.len_cons];omega) ⟨show i+1+r.len=_ by omega,show q.len=r.len by omega,show Hd k2 s _ _=Hd z.1 z.2 r q by rw[hrun,Rr _ _ _ _ _ _ (by omega),hz];rfl,show z.1≤k2 by have:=rU _ _ _ _ _ hz;omega,hz4,(T1.bnd_cons.1 hrb).2,(T1.bnd_cons.1 hqb).2⟩ lE (λw f hM=>⟨_,by have hM2:=hM.less (H':=[⟨b2,tC (Ai s u) (some ⟨pb,po,none⟩) gc,57,true⟩,⟨b1,tC (Ai s t) (some ⟨eb,eo,none⟩) hc,57,true⟩]) (R':=[]) (B':=[]) (F':=[λw f=>AZ w f (some ⟨eb,eo,none⟩) (i+1) r,λw f=>AZ w f (some ⟨pb,po,none⟩) (i+1) q]) sR sR nE (mR [3,1]);rw[hz2,hz3] at hM2;exact hM2⟩));refine go Ct 3 [] (λ_=>GR<|go Ct 8 [] (λ_=>?_));obtain rfl:r=.nil:=Ty.len0 (by have:=of_decide_eq_false h8;omega);have hun2:Hd (k2+1) s t.one u.one=.ok (j,s2):=by rw[hun,hrun];cases j <;> rfl
 exact Bc (DI rfl rfl) (λw f hM=>⟨(0,s2,_),f,rfl,⟨λz h=>(by rw[hun2] at h;cases h;exact⟨rfl,rfl,rfl,hw2⟩),λe h=>(by rw[hun2] at h;cases h)⟩,hM.exm,hM.res,tQ⟩)
def xJ:Eh:=⟨[(130,2,2)],[],[],[],[(3,false,1),(57,true,4)],[],[],[(60,130)]⟩
theorem SU:xJ.Ok prog:=⟨(And.intro SY tQ),tQ,tQ,tQ,(And.intro Dd (And.intro AI tQ)),tQ,tQ,(And.intro Yd tQ)⟩
theorem Wj(k:Nat):gG prog 72 130 k:=Nat.strongRecOn k λk ih w f hv sb mb s fr hS hf hne hw hk t u a c a2 c2 hbt hbu hT hU=>Xr k ih w f hv sb mb s fr hS hf hne hw hk t u a c a2 c2 hbt hbu hT hU
theorem TA(w:World)(f:Fq)(hv:Vl w f)(sb mb:Nat)(s:BX)(fr pr:Int)(hS:BQ 130 sb mb s fr pr w f)(hf:f sb=0∧f mb=0)(hne:sb≠mb)(hw:J3 s)(t u:T1)(a:Option Addr)(c:Nat)(a2:Option Addr)(c2:Nat)(hbt:t.bnd)(hbu:u.bnd)(hT:Ah w f t.kids a c)(hU:Ah w f u.kids a2 c2) :
  BC prog 48 #[.pointer (some ⟨sb,0,none⟩),tV t a c,tV u a2 c2] w (Fv (α:=Int×BX×Int) (λx=>.int .i64 x.1) (λx=>(∀b,FT s t u=.ok b→x.1=0∧x.2.1=b∧J3 b)∧∀e,FT s t u=.error e→x.1=e∧e≠0) (MJ sb mb) (λx=>BQ 130 sb mb x.2.1 fr x.2.2) (λ_=>[]) w f):=by
 refine Dl (X:=XS 130 sb mb s fr pr w f) (H:=[]) (R:=[]) (B:=[]) (Fs:=[λw f=>Ah w f t.kids a c,λw f=>Ah w f u.kids a2 c2]) (f:=f) func48 rfl rfl rfl (bK hv hS hf ⟨hT,hU,tQ⟩ ⟨Ah.mono,Ah.mono,tQ⟩)<|go SU 22 [] (λb1=>λb2=>λ_=>aK (b:=sb) (I':=BQ 130 sb mb s fr (10000-((10000:Nat):Int))) rfl rfl rfl rfl Dd rfl rfl rfl (.inl rfl) (λw f h=>h.1) (λw f w2 h hM hC hb=>⟨hb,let ⟨_,es,h2,h3⟩:=h;⟨es,h2.heap (hC.block mb (λe=>hne e.symm)),Gx.mono (hC.fle (hM.mi sb (.inl rfl)).2.1) s es h3⟩⟩) (BQ.stab (.inl rfl) (.inr rfl))<|go SU 3 [] (λ_=>Dp [0,1] Ap (rd [0,1,3] (.br 2 (.br 4 (.br 5 (.rd 6 .fin) .fin) .fin) .fin)) rfl kR<|AA SU 3 [1,0] (y<|y<|λ_=>Ag rfl ?_ Aj)));refine BA rfl rfl (eC Qj rfl rfl) (λw f hM=>Ob w f hM.vl t a c hbt hM.f0) (λx=>⟨Ah.mono,tQ⟩) ?_;rintro⟨ha,hc⟩ -;refine go SU 1 [] (λ_=>Ax [0,1] rfl<|Ag rfl ?_ Aj);refine BA rfl rfl (eC Qj rfl rfl) (λw f hM=>Ob w f hM.vl u a2 c2 hbu hM.f2) (λx=>⟨Ah.mono,tQ⟩) ?_;rintro⟨ga,gc⟩ -;refine go SU 1 [] (λ_=>Ax [0,1] rfl<|Ag rfl ?_ Aj);refine OM (XX:=λ_ _=>False) rfl rfl (eC XP rfl rfl) (λw f hM=>(Wj 10000 w f hM.vl sb mb s fr hM.res ⟨(hM.mi sb (.inl rfl)).2.1,(hM.mi mb (.inr rfl)).2.1⟩ hne hw (Nat.le_refl _) t u ha hc ga gc hbt hbu hM.f1 hM.f0).retP) (λ_=>(BQ.stab (.inl rfl) (.inr rfl))) (λ_=>trivial) (λ_ _ _ _ _ h=>h.elim) ?_;rintro⟨cd,s3,pr3⟩ ⟨hok,herr⟩;exact go SU 1 [] (λ_=>Ax [0,1] rfl<|AA SU 1 [] (λ_=>B4<|go SU 2 [] (λ_=>Bc (DI rfl rfl) (λw f hM=>⟨(cd,s3,pr3),f,rfl,⟨λb h=>(by rw[FT,RM] at h;cases hx:Hd 10000 s t.one u.one with|error e=>rw[hx] at h;cases h|ok z=>rw[hx] at h;cases h;exact⟨(hok z hx).1,(hok z hx).2.1,(hok z hx).2.2.2⟩),λe h=>(by rw[FT,RM] at h;cases hx:Hd 10000 s t.one u.one with|error e=>rw[hx] at h;cases h;exact herr _ hx|ok z=>rw[hx] at h;cases h)⟩,hM.exm,hM.res,tQ⟩))))
def uK:Eh:=⟨[(57,0,0),(57,1,1),(57,2,2),(57,3,3)],[(53,57,4)],[],[],[(57,true,4),(3,false,1),(9,false,1),(53,false,1)],[(57,[.int .i64 0,.int .i64 0,.string ⟨#[]⟩,.slice none 0 0])],[(57,[(0,1),(1,1),(2,1),(3,1)])],[]⟩
theorem Cv:uK.Ok prog:=⟨(And.intro HS (And.intro Jq (And.intro QV (And.intro FH tQ)))),(And.intro DT tQ),tQ,tQ,(And.intro AI (And.intro Dd (And.intro GX (And.intro Hs tQ)))),(And.intro DN tQ),(And.intro RO tQ),tQ⟩
theorem Sj(w:World)(f:Fq)(hv:Vl w f)  :
  BC prog 50 #[.slice none 0 0] w (BW (α:=Unit) (λ_=>.slice none 0 0) (λ_=>True) (λ_=>[]) w f):=by
 refine Dl (X:=X0 w f) (H:=[]) (R:=[]) (B:=[]) (Fs:=[]) (f:=f) func50 rfl rfl rfl (C8 hv tQ tQ)<|go Cv 12 [] (λ_=>Ba 4 rfl rfl (λh1=>?_) (λh1=>?_));exact go Cv 8 [] (λ_=>Bc (DI rfl rfl) (λw f hM=>⟨(),f,rfl,tQ,hM.exm,tQ⟩))
 cases h1
theorem Bz(w:World)(f:Fq)(hv:Vl w f)(tx:lU) :
  BC prog 20 #[S tx,.slice none 0 0] w (BW (α:=Unit) (λ_=>tV (.con tx .nil) none 0) (λ_=>True) (λ_=>[]) w f):=by
 refine Dl (X:=X0 w f) (H:=[]) (R:=[]) (B:=[]) (Fs:=[]) (f:=f) func20 rfl rfl rfl (C8 hv tQ tQ)<|go Cv 9 [] (λb1=>λ_=>BA rfl rfl (eC Y2 rfl rfl) (λw f hM=>Sj w f hM.vl) (λx=>trivial) ?_);rintro⟨⟩ -;exact go Cv 5 [0] (y<|λ_=>Bc (λw f hM=>AJ rfl (Ac rfl AI hM.k0 rfl)) (λw f hM=>⟨(),f,rfl,tQ,hM.exm,tQ⟩))
theorem Wo(k:Nat)(ih:∀j,j<k→eP prog 83 130 j)(w:World)(f:Fq)(hv:Vl w f)(sb mb:Nat)(s:BX)(fr pr:Int)(hS:BQ 130 sb mb s fr pr w f)(hw:J3 s)(t:T1)(a:Option Addr)(c jj:Nat)(hb:t.bnd)(hT:Ah w f t.kids a c)(hfin:BH s k t.one=some jj) :
  BC prog 83 #[.pointer (some ⟨sb,0,none⟩),tV t a c] w (BW (α:=Option Addr×Nat) (λx=>tV (AP s k t.one).hd x.1 x.2) (λ_=>True) (λx=>[λw f=>Ah w f (AP s k t.one).hd.kids x.1 x.2]) w f):=by
 have hkb:=(C7 hw hb).1;refine Dl (X:=X0 w f) (H:=[]) (R:=[]) (B:=[]) (Fs:=[λw f=>Ah w f t.kids a c]) (f:=f) func83 rfl rfl rfl (C8 hv ⟨hT,tQ⟩ ⟨Ah.mono,tQ⟩)<|go Cv 10 [1] (λb1=>λb2=>y<|λ_=>BA rfl rfl (eC Jo rfl rfl) (λw f hM=>Ev w f hM.vl sb mb s fr pr (BQ.keep hS hM.exm hM.ent (λh=>h) (λh=>h)) hw t a c hb hM.f0) (λx=>⟨Ah.mono,tQ⟩) ?_);rintro⟨ha,hc⟩ -;refine go Cv 5 [1] (y<|λ_=>?_);obtain⟨k2,rfl⟩:∃q,k=q+1:=by cases k with|zero=>rw[L2] at hfin;cases hfin|succ q=>exact⟨q,rfl⟩
 rw[Kz] at hfin;refine go Cv 6 [1] (y<|λ_=>Ba 13 rfl rfl (λh1=>?_) (λh1=>?_));refine go Cv 5 [1] (y<|λ_=>BA rfl rfl (eC Hu rfl rfl) (λw f hM=>Ek w f hM.vl (Ai s t).num) (λx=>trivial) ?_);rintro⟨⟩ -;refine go Cv 5 [0] (y<|λ_=>?_);obtain⟨n,hn⟩:=EF h1;have hone:(AP s (k2+1) t.one).hd=.var n:=by rw[On,hn]
 exact Bc (λw f hM=>AJ rfl (Ac rfl AI hM.k0 rfl)) (λw f hM=>⟨(none,0),f,(by rw[hone,hn];rfl),tQ,hM.exm,⟨by rw[hone];exact Ah.nil _ _ _ _,tQ⟩⟩);refine go Cv 7 [1] (y<|λ_=>BA rfl rfl (eC B6 rfl rfl) (λw f hM=>Bz w f hM.vl (Ai s t).tx) (λx=>trivial) ?_);rintro⟨⟩ -;refine go Cv 14 [0,2] (λb3=>y<|y<|λ_=>Rd 57 4 ?_);refine HK (α:=Nat×Ty×Ty×List Value×Option Addr×Nat×Nat) (λx=>x.2.1.len) (λx=>x.1+x.2.1.len=(Ai s t).kids.len∧x.2.2.1.len=x.1∧AP s k2 (Ai s t).kids=x.2.2.1.app (AP s x.2.2.2.2.2.2 x.2.1)∧BH s x.2.2.2.2.2.2 x.2.1=some jj∧x.2.2.2.2.2.2≤k2∧x.2.1.bnd) (λx=>(E7 0 (.pointer (some ⟨sb,0,none⟩)) 3 (.pointer (some ⟨b1,0,none⟩)) 4 (.pointer (some ⟨b2,0,none⟩)) 5 (.pointer (some ⟨b3,0,none⟩)) 21 (.slice ha (Ai s t).kids.len hc) 22 (.int .i64 ((Ai s t).kids.len:Int)) 23 (.int .i64 (x.1:Int)))) (λx=>X0 w f) (λx=>[⟨b3,[.int .i64 1,.int .i64 0,S (Ai s t).tx,.slice x.2.2.2.2.1 x.1 x.2.2.2.2.2.1],57,true⟩,⟨b2,[.int .i64 0,.int .i64 0,.string ⟨#[]⟩,.slice none 0 0],57,true⟩,⟨b1,tC (Ai s t) ha hc,57,true⟩]) (λx=>[⟨57,4,x.2.2.2.2.1,x.2.2.2.2.2.1,x.1,x.2.2.2.1⟩]) (λx=>[]) (λx=>[λw f=>AZ w f ha x.1 x.2.1,λw f=>Bo w f x.2.2.1 x.2.2.2.1]) (0,(Ai s t).kids,.nil,[],none,0,k2) ⟨by simp,rfl,rfl,hfin,Nat.le_refl _,(C7 hw hb).2⟩ lE (λw f hM=>hM.more (B':=[]) (F':=[λw f=>AZ w f ha 0 (Ai s t).kids,λw f=>Bo w f .nil []]) nE (A2.mem ⟨Ah.at hM.f0,rfl,tQ⟩) (Af.mem ⟨AZ.mono,Bo.mono,tQ⟩) |>.less sR sR nE (mR [0,1])) ?_;rintro⟨i,r,dn,xs,ra,rc,j⟩ ⟨hi,hdl,hk,hj1,hjk,hrb⟩;dsimp only at hi hdl hk hj1 hjk hrb ⊢;refine go Cv 6 [] (λ_=>Ba 24 rfl rfl (λh2=>?_) (λh2=>?_));refine go Cv 6 [] (λ_=>?_);have hil:i<(Ai s t).kids.len:=by have:=of_decide_eq_true h2;omega
 obtain⟨t2,r,rfl⟩:=Ty.cases1 r oM;rw[T1.len_cons] at hi;obtain⟨j2,hj2,hj3⟩:∃j2,BH s j t2.one=some j2∧BH s j2 r=some jj:=by rw[JW] at hj1;cases hx:BH s j t2.one with|none=>rw[hx] at hj1;cases hj1|some q=>rw[hx] at hj1;exact⟨q,rfl,hj1⟩
 refine C6 (α:=Nat×Nat×Option Addr×Nat) (λx=>ha=some ⟨x.1,x.2.1,none⟩) (λx=>[⟨x.1,x.2.1+i*4,tC t2 x.2.2.1 x.2.2.2⟩]) (λx=>[λw f=>Ah w f t2.kids x.2.2.1 x.2.2.2,λw f=>AZ w f ha (i+1) r]) (λw f hM=>let ⟨b,off,ka,kc,h1,h2,h3,h4⟩:=AZ.head hM.f0;⟨(b,off,ka,kc),h1,(oE h2),A2.mem ⟨h3,h4,tQ⟩⟩) (λx=>Af.mem ⟨Ah.mono,AZ.mono,tQ⟩) ?_;rintro⟨eb,eo,ka,kc⟩ rfl;refine go Cv 7 [100,0,0] (And.intro oM<|y2<|λb4=>y<|λ_=>Dp [0,2,3] Ap (rd [0,2,3] (.br 1 (.br 4 (.br 5 (.br 6 (.rd 7 (.br 8 .fin .fin)) .fin) .fin) .fin) (.br 4 (.br 1 (.br 5 (.br 6 (.rd 7 (.br 8 .fin .fin)) .fin) .fin) (.br 5 (.br 1 (.br 6 (.rd 7 (.br 8 .fin .fin)) .fin) .fin) .fin)) .fin))) rfl kR<|AA Cv 3 [0] (y<|λ_=>Ag rfl ?_ ?_));refine go Cv 2 [1] (y<|λ_=>Ax [0,2,3] rfl<|Ag rfl ?_ Aj);refine BA rfl rfl (eC UY rfl rfl) (λw f hM=>ih j oM w f hM.vl sb mb s fr pr (BQ.keep hS hM.exm hM.ent (λh=>h) (λh=>h)) hw t2 ka kc j2 (T1.bnd_cons.1 hrb).1 hM.f0 hj2) (λx=>⟨Ah.mono,tQ⟩) ?_;rintro⟨a2,c2⟩ -;refine go Cv 1 [] (λ_=>Ax [0,2,3] rfl<|Ag rfl ?_ Aj);refine go Cv 2 [] (λb5=>λ_=>Ax [1,3,4] rfl<|Ag rfl ?_ Aj);refine DR 0 0 rfl rfl Dt rfl rfl rfl rfl rfl rfl rfl rfl (λ_ _=>rfl) oM oM λra2 rc2=>go Cv 1 [] (λ_=>Ax [1,3,4] rfl<|AA Cv 1 [] (λ_=>Ag rfl ?_ Aj));exact go Cv 2 [2] (y<|λ_=>Ax [1,3,4] rfl<|B4<|go Cv 6 [] (And.intro ⟨oM,oM⟩<|λ_=>DM ((i+1,r,dn.snoc (AP s j t2.one).hd,xs++tC (AP s j t2.one).hd a2 c2,ra2,rc2,j2)) (show r.len<(t2.cons r).len by rw[T1.len_cons];omega) ⟨show i+1+r.len=_ by omega,show (dn.snoc _).len=i+1 by rw[Ty.len_snoc,hdl],show AP s k2 _=(dn.snoc _).app (AP s j2 r) by rw[hk,Mu hj2 hj3,Ty.snoc_app],hj3,show j2≤k2 by have:=Fe s _ _ _ hj2;omega,(T1.bnd_cons.1 hrb).2⟩ lE (λw f hM=>⟨_,(hM.more (B':=[]) (F':=[λw f=>Bo w f (dn.snoc (AP s j t2.one).hd) (xs++tC (AP s j t2.one).hd a2 c2)]) nE (A2.mem ⟨Bo.snoc hM.f0 hM.f4,tQ⟩) (Af.mem ⟨Bo.mono,tQ⟩)).less (.cons _ (.cons _ sR)) sR nE (mR [3,0])⟩)));refine Ag rfl ?_ Aj;refine BA rfl rfl (eC UY rfl rfl) (λw f hM=>ih j oM w f hM.vl sb mb s fr pr (BQ.keep hS hM.exm hM.ent (λh=>h) (λh=>h)) hw t2 ka kc j2 (T1.bnd_cons.1 hrb).1 hM.f0 hj2) (λx=>⟨Ah.mono,tQ⟩) ?_;rintro⟨a2,c2⟩ -;refine go Cv 1 [] (λ_=>Ax [0,2,3] rfl<|Ag rfl ?_ ?_);refine go Cv 2 [1] (y<|λ_=>Ax [0,2,3] rfl<|Ag rfl ?_ Aj);refine go Cv 2 [] (λb6=>λ_=>Ax [1,3,4] rfl<|Ag rfl ?_ Aj);refine DR 0 0 rfl rfl Dt rfl rfl rfl rfl rfl rfl rfl rfl (λ_ _=>rfl) oM oM λra2 rc2=>go Cv 1 [] (λ_=>Ax [1,3,4] rfl<|AA Cv 1 [] (λ_=>Ag rfl ?_ Aj))
 exact go Cv 2 [2] (y<|λ_=>Ax [1,3,4] rfl<|B4<|go Cv 6 [] (And.intro ⟨oM,oM⟩<|λ_=>DM ((i+1,r,dn.snoc (AP s j t2.one).hd,xs++tC (AP s j t2.one).hd a2 c2,ra2,rc2,j2)) (show r.len<(t2.cons r).len by rw[T1.len_cons];omega) ⟨show i+1+r.len=_ by omega,show (dn.snoc _).len=i+1 by rw[Ty.len_snoc,hdl],show AP s k2 _=(dn.snoc _).app (AP s j2 r) by rw[hk,Mu hj2 hj3,Ty.snoc_app],hj3,show j2≤k2 by have:=Fe s _ _ _ hj2;omega,(T1.bnd_cons.1 hrb).2⟩ lE (λw f hM=>⟨_,(hM.more (B':=[]) (F':=[λw f=>Bo w f (dn.snoc (AP s j t2.one).hd) (xs++tC (AP s j t2.one).hd a2 c2)]) nE (A2.mem ⟨Bo.snoc hM.f0 hM.f4,tQ⟩) (Af.mem ⟨Bo.mono,tQ⟩)).less (.cons _ (.cons _ sR)) sR nE (mR [3,0])⟩)));refine Ag rfl ?_ Aj;refine go Cv 2 [] (λb7=>λ_=>Ax [1,3,4] rfl<|Ag rfl ?_ Aj);refine go Cv 2 [2] (y<|λ_=>Ax [1,3,4] rfl<|Ag rfl ?_ Aj);refine DR 0 0 rfl rfl Dt rfl rfl rfl rfl rfl rfl rfl rfl (λ_ _=>rfl) oM oM λra2 rc2=>go Cv 1 [] (λ_=>Ax [1,3,4] rfl<|AA Cv 1 [] (λ_=>Ag rfl ?_ Aj));exact go Cv 2 [2] (y<|λ_=>Ax [1,3,4] rfl<|B4<|go Cv 6 [] (And.intro ⟨oM,oM⟩<|λ_=>DM ((i+1,r,dn.snoc (AP s j t2.one).hd,xs++tC (AP s j t2.one).hd a2 c2,ra2,rc2,j2)) (show r.len<(t2.cons r).len by rw[T1.len_cons];omega) ⟨show i+1+r.len=_ by omega,show (dn.snoc _).len=i+1 by rw[Ty.len_snoc,hdl],show AP s k2 _=(dn.snoc _).app (AP s j2 r) by rw[hk,Mu hj2 hj3,Ty.snoc_app],hj3,show j2≤k2 by have:=Fe s _ _ _ hj2;omega,(T1.bnd_cons.1 hrb).2⟩ lE (λw f hM=>⟨_,(hM.more (B':=[]) (F':=[λw f=>Bo w f (dn.snoc (AP s j t2.one).hd) (xs++tC (AP s j t2.one).hd a2 c2)]) nE (A2.mem ⟨Bo.snoc hM.f0 hM.f4,tQ⟩) (Af.mem ⟨Bo.mono,tQ⟩)).less (.cons _ (.cons _ sR)) sR nE (mR [3,0])⟩)));refine go Cv 3 [] (λ_=>GR<|go Cv 9 [0,1] (y<|y<|λ_=>?_));obtain rfl:r=.nil:=Ty.len0 (by have:=of_decide_eq_false h2;omega);rw[Hv,Ty.app_nil] at hk;obtain⟨tx,ka,hTc⟩:=Ga h1;have hone:(AP s (k2+1) t.one).hd=.con tx dn:=by rw[On,hTc,← hk,hTc];rfl
 have htx:(Ai s t).tx=tx:=by rw[hTc];rfl
 rcases Nat.eq_zero_or_pos dn.len with h0|h0
 · exact Bc (λw f hM=>AJ rfl (Ac rfl AI hM.k1 rfl)) (λw f hM=>⟨(ra,rc),f,(by rw[hone,htx,← hdl];rfl),tQ,hM.exm,⟨by rw[hone];obtain rfl:=Ty.len0 h0;exact Ah.nil _ _ _ _,tQ⟩⟩)
 · exact Bc (λw f hM=>AJ rfl (Ac rfl AI hM.k1 rfl)) (λw f hM=>let ⟨f2,hM2,hF⟩:=Ou hM hM.f1 h0;⟨(ra,rc),f2,(by rw[hone,htx,← hdl];rfl),tQ,hM2.exm,⟨by rw[hone];exact hF,tQ⟩⟩)
theorem UG(k:Nat):eP prog 83 130 k:=Nat.strongRecOn k λk ih w f hv sb mb s fr pr hS hw t a c j hb hT hj=>Wo k ih w f hv sb mb s fr pr hS hw t a c j hb hT hj
def uI:Eh:=⟨[(57,0,0),(57,1,1),(57,3,3)],[(53,57,4)],[],[],[(57,true,4),(3,false,1),(53,false,1)],[(57,[.int .i64 0,.int .i64 0,.string ⟨#[]⟩,.slice none 0 0])],[(57,[(0,1),(1,1),(2,1),(3,1)])],[(60,130)]⟩
theorem Ed:uI.Ok prog:=⟨(And.intro HS (And.intro Jq (And.intro FH tQ))),(And.intro DT tQ),tQ,tQ,(And.intro AI (And.intro Dd (And.intro Hs tQ))),(And.intro DN tQ),(And.intro RO tQ),(And.intro Yd tQ)⟩
theorem K1(w:World)(f:Fq)(hv:Vl w f)(sb mb:Nat)(s:BX)(fr pr:Int)(hS:BQ 130 sb mb s fr pr w f)(hw:J3 s)(t:T1)(a:Option Addr)(c:Nat)(hb:t.bnd)(hT:Ah w f t.kids a c) :
  BC prog 58 #[.pointer (some ⟨sb,0,none⟩),tV t a c] w (BW (α:=Option Addr×Nat) (λx=>.tuple #[tV ((CL s t).getD (.var 0)) x.1 x.2,.int .i64 (if (CL s t).isSome then 0 else 4)]) (λ_=>True) (λx=>[λw f=>Ah w f ((CL s t).getD (.var 0)).kids x.1 x.2]) w f):=by
 refine Dl (X:=X0 w f) (H:=[]) (R:=[]) (B:=[]) (Fs:=[λw f=>Ah w f t.kids a c]) (f:=f) func58 rfl rfl rfl (C8 hv ⟨hT,tQ⟩ ⟨Ah.mono,tQ⟩)<|go Ed 21 [1] (λb1=>λb2=>y<|λ_=>BA rfl rfl (eC ZC rfl rfl) (λw f hM=>NX w f hM.vl sb mb s fr pr (BQ.keep hS hM.exm hM.ent (λh=>h) (λh=>h)) hw t a c hb hM.f0) (λx=>trivial) ?_);rintro⟨⟩ -;refine go Ed 4 [] (λ_=>Ba 10 rfl rfl (λh1=>?_) (λh1=>?_));replace h1:=Gg h1;refine go Ed 11 [0] (y<|λ_=>?_);have hf:CL s t=none:=by rw[CL,h1];rfl
 exact Bc (λw f hM=>Cu rfl (Ac rfl AI hM.k0 rfl) (Ak rfl)) (λw f hM=>⟨(none,0),f,(by rw[hf];rfl),tQ,hM.exm,⟨by rw[hf];exact Ah.nil _ _ _ _,tQ⟩⟩);replace h1:=Gs h1;refine go Ed 8 [1] (y<|λ_=>?_);obtain⟨j,hj⟩:∃j,BH s 1000 t.one=some j:=by have h9:=h1;rw[FD,FQ] at h9;exact Option.isSome_iff_exists.1 h9
 refine BA rfl rfl (eC UY rfl rfl) (λw f hM=>UG 1000 w f hM.vl sb mb s fr pr (BQ.keep hS hM.exm hM.ent (λh=>h) (λh=>h)) hw t a c j hb hM.f0 hj) (λx=>⟨Ah.mono,tQ⟩) ?_;rintro⟨a2,c2⟩ -;refine go Ed 5 [0] (y<|λ_=>?_);have hf:CL s t=some (AP s 1000 t.one).hd:=by rw[CL,if_pos h1]
 exact Bc (λw f hM=>Cu rfl (Ac rfl AI hM.k0 rfl) (Ak rfl)) (λw f hM=>⟨(a2,c2),f,(by rw[hf];rfl),tQ,hM.exm,⟨by rw[hf];exact hM.f0,tQ⟩⟩)
theorem W2(m:Nat)(ih:fJ prog 44 m)(w:World)(f:Fq)(hv:Vl w f)(l:List Int)(la:Option Addr)(lc:Nat)(yy:Ty)(ya:Option Addr)(yc:Nat)(hl:l.length≤1000000)(hyl:yy.len≤200000)(hyb:yy.bnd)(hI:B7 w f l la lc)(hY:Ah w f yy ya yc)(t:T1)(a:Option Addr)(c:Nat)(hm:t.kids.size<m+1)(hbd:t.bnd)(hT:Ah w f t.kids a c) :
  BC prog 44 #[tV t a c,.slice la l.length lc,.slice ya yy.len yc] w (BW (α:=Option Addr×Nat) (λx=>tV (C2 t l yy) x.1 x.2) (λ_=>True) (λx=>[λw f=>Ah w f (C2 t l yy).kids x.1 x.2]) w f):=by
 have hbl:=hbd.1;refine Dl (X:=X0 w f) (H:=[]) (R:=[]) (B:=[]) (Fs:=[λw f=>Ah w f t.kids a c,λw f=>B7 w f l la lc,λw f=>Ah w f yy ya yc]) (f:=f) func44 rfl rfl rfl (C8 hv ⟨hT,hI,hY,tQ⟩ ⟨Ah.mono,B7.mono,Ah.mono,tQ⟩)<|go Ed 14 [1] (λb1=>λb2=>y<|λ_=>Ba 13 rfl rfl (λh1=>?_) (λh1=>?_));refine go Ed 7 [1] (y<|λ_=>BA rfl rfl (eC aF rfl rfl) (λw f hM=>M3 w f hM.vl l la lc t.num hl hM.f1) (λx=>trivial) ?_);rintro⟨⟩ -;refine go Ed 8 [] (λ_=>Ba 20 rfl rfl (λh2=>?_) (λh2=>?_));refine go Ed 7 [] (λ_=>Ba 25 rfl rfl (λh3=>?_) (λh3=>?_));refine go Ed 2 [] (λ_=>?_);obtain⟨i,hix⟩:∃i,DS l t.num=some i:=by cases hx:DS l t.num with|some i=>exact⟨i,rfl⟩|none=>have h9:=of_decide_eq_true h2;simp only[X9,hx] at h9;omega
 have hixI:X9 l t.num=i:=by rw[X9,hix]
 obtain⟨t2,ht2⟩:=Vg (k:=yy) (i:=i) (by have h9:=of_decide_eq_true h3;rw[hixI] at h9;omega);refine C6 (α:=Nat×Nat×Option Addr×Nat) (λx=>ya=some ⟨x.1,x.2.1,none⟩) (λx=>[⟨x.1,x.2.1+i*4,tC t2 x.2.2.1 x.2.2.2⟩]) (λx=>[λw f=>Ah w f t2.kids x.2.2.1 x.2.2.2]) (λw f hM=>let ⟨b,off,ka,kc,h1,h2,h3⟩:=Ah.nth hM.f2 ht2;⟨(b,off,ka,kc),h1,(oE h2),A2.mem ⟨h3,tQ⟩⟩) (λx=>Af.mem ⟨Ah.mono,tQ⟩) ?_;rintro⟨eb,eo,ka,kc⟩ rfl;have hil:i<yy.len:=by have h9:=of_decide_eq_true h3;rw[hixI] at h9;omega
 rw[hixI];refine go Ed 5 [100,0] (And.intro oM<|y2<|λ_=>BA rfl rfl (eC Qj rfl rfl) (λw f hM=>Ob w f hM.vl t2 ka kc (HZ hyb ht2) hM.f0) (λx=>⟨Ah.mono,tQ⟩) ?_);rintro⟨a2,c2⟩ -;refine go Ed 6 [0] (y<|λ_=>?_);obtain⟨n,rfl⟩:=EF h1;have hsw:C2 (.var n) l yy=t2:=by rw[Nu,show DS l n=some i from hix];show (yy.get i).getD _=t2;rw[ht2];rfl
 exact Bc (λw f hM=>AJ rfl (Ac rfl AI hM.k0 rfl)) (λw f hM=>⟨(a2,c2),f,(by rw[hsw]),tQ,hM.exm,⟨by rw[hsw];exact hM.f0,tQ⟩⟩);refine go Ed 11 [1,0] (y<|y<|λ_=>?_);obtain⟨n,rfl⟩:=EF h1
 have hsw:C2 (.var n) l yy=.var n:=by
  rw[Nu]
  cases hx:DS l n with
  |none=>rfl
  |some i=>show (yy.get i).getD _=_;rw[Y9 (by have h9:=of_decide_eq_false h3;rw[show X9 l (T1.num (.var n))=i by simp only[T1.num,X9,hx]] at h9;omega)];rfl
 exact Bc (λw f hM=>AJ rfl (Ac rfl AI hM.k0 rfl)) (λw f hM=>⟨(a,c),f,(by rw[hsw]),tQ,hM.exm,⟨by rw[hsw];exact Ah.mono _ _ _ _ hT hM.ent,tQ⟩⟩);refine go Ed 18 [1,0] (y<|y<|λ_=>?_);obtain⟨n,rfl⟩:=EF h1
 have hsw:C2 (.var n) l yy=.var n:=by
  rw[Nu]
  cases hx:DS l n with
  |none=>rfl
  |some i=>have h9:=of_decide_eq_false h2;rw[show X9 l (T1.num (.var n))=i by simp only[T1.num,X9,hx]] at h9;omega
 exact Bc (λw f hM=>AJ rfl (Ac rfl AI hM.k0 rfl)) (λw f hM=>⟨(a,c),f,(by rw[hsw]),tQ,hM.exm,⟨by rw[hsw];exact Ah.mono _ _ _ _ hT hM.ent,tQ⟩⟩);refine go Ed 8 [1] (y<|λ_=>vN rfl rfl Dt rfl rfl rfl rfl (by have:=hbd.1;omega) (by have:=hbd.1;unfold maxLen;omega) λbr1=>go Ed 13 [1] (y<|λ_=>?_));refine HK (α:=Nat×Ty×Ty×List Value) (λx=>x.2.1.len) (λx=>x.1+x.2.1.len=t.kids.len∧x.2.2.1.len=x.1∧DX l yy t.kids=x.2.2.1.app (DX l yy x.2.1)∧x.2.1.bnd∧x.2.1.size≤t.kids.size) (λx=>(E8 1 (.slice la l.length lc) 2 (.slice ya yy.len yc) 3 (.pointer (some ⟨b1,0,none⟩)) 6 (.pointer (some ⟨b2,0,none⟩)) 8 (.slice (some ⟨br1,0,none⟩) t.kids.len t.kids.len) 37 (.slice a t.kids.len c) 38 (.int .i64 (t.kids.len:Int)) 39 (.int .i64 (x.1:Int)))) (λx=>X0 w f) (λx=>[⟨b2,[.int .i64 0,.int .i64 0,.string ⟨#[]⟩,.slice none 0 0],57,true⟩,⟨b1,tC t a c,57,true⟩]) (λx=>[⟨57,4,some ⟨br1,0,none⟩,t.kids.len,t.kids.len,x.2.2.2++Gy x.2.1.len [.int .i64 0,.int .i64 0,.string ⟨#[]⟩,.slice none 0 0]⟩]) (λx=>[]) (λx=>[λw f=>AZ w f a x.1 x.2.1,λw f=>Bo w f x.2.2.1 x.2.2.2,λw f=>B7 w f l la lc,λw f=>Ah w f yy ya yc]) (0,t.kids,.nil,[]) ⟨by simp,rfl,rfl,hbd.2,Nat.le_refl _⟩ lE (λw f hM=>hM.more (B':=[]) (F':=[λw f=>AZ w f a 0 t.kids,λw f=>Bo w f .nil []]) nE (A2.mem ⟨Ah.at hM.f0,rfl,tQ⟩) (Af.mem ⟨AZ.mono,Bo.mono,tQ⟩) |>.less sR sR nE (mR [0,1,3,4])) ?_;rintro⟨i,r,dn,xs⟩ ⟨hi,hdl,hk,hb,hs⟩;dsimp only at hi hdl hk hb hs ⊢;refine go Ed 6 [] (λ_=>Ba 40 rfl rfl (λh4=>?_) (λh4=>?_));refine go Ed 6 [] (λ_=>?_);have hil:i<t.kids.len:=by have:=of_decide_eq_true h4;omega
 obtain⟨t2,r,rfl⟩:=Ty.cases1 r oM;rw[T1.len_cons] at hi;refine C6 (α:=Nat×Nat×Option Addr×Nat) (λx=>a=some ⟨x.1,x.2.1,none⟩) (λx=>[⟨x.1,x.2.1+i*4,tC t2 x.2.2.1 x.2.2.2⟩]) (λx=>[λw f=>Ah w f t2.kids x.2.2.1 x.2.2.2,λw f=>AZ w f a (i+1) r]) (λw f hM=>let ⟨b,off,ka,kc,h1,h2,h3,h4⟩:=AZ.head hM.f0;⟨(b,off,ka,kc),h1,(oE h2),A2.mem ⟨h3,h4,tQ⟩⟩) (λx=>Af.mem ⟨Ah.mono,AZ.mono,tQ⟩) ?_;rintro⟨eb,eo,ka,kc⟩ rfl;refine go Ed 15 [100,0,0,0] (And.intro oM<|y2<|λb3=>y<|y<|λ_=>BA rfl rfl (eC DD rfl rfl) (λw f hM=>ih w f hM.vl l la lc yy ya yc hl hyl hyb hM.f4 hM.f5 t2 ka kc (by have:=T1.size_cons t2 r;omega) (T1.bnd_cons.1 hb).1 hM.f0) (λx=>⟨Ah.mono,tQ⟩) ?_);rintro⟨a2,c2⟩ -;refine go Ed 1 [] (And.intro oM<|λ_=>KA (λw f hM=>Bo.len hM.f4) λhxl=>?_);rw[hdl] at hxl;exact vG 0 ((xs++tC (C2 t2 l yy) a2 c2)++Gy r.len [.int .i64 0,.int .i64 0,.string ⟨#[]⟩,.slice none 0 0]) rfl rfl rfl rfl AI rfl rfl rfl (by simp only[Nat.zero_add,List.length_cons,List.length_nil,Int.toNat_natCast];omega) (by rw[Nat.zero_add,Int.toNat_natCast,← hxl,T1.len_cons,Gy];exact SN _ _ _ _ rfl) rfl<|go Ed 7 [] (And.intro ⟨oM,oM⟩<|λ_=>DM ((i+1,r,dn.snoc (C2 t2 l yy),xs++tC (C2 t2 l yy) a2 c2)) (show r.len<(t2.cons r).len by rw[T1.len_cons];omega) ⟨show i+1+r.len=t.kids.len by omega,show (dn.snoc _).len=i+1 by rw[Ty.len_snoc,hdl],show DX l yy t.kids=(dn.snoc _).app (DX l yy r) by rw[hk,Pj,Ty.snoc_app],(T1.bnd_cons.1 hb).2,show r.size≤t.kids.size by have:=T1.size_cons t2 r;omega⟩ lE (λw f hM=>⟨_,(hM.more (B':=[]) (F':=[λw f=>Bo w f (dn.snoc (C2 t2 l yy)) (xs++tC (C2 t2 l yy) a2 c2)]) nE (A2.mem ⟨Bo.snoc hM.f0 hM.f4,tQ⟩) (Af.mem ⟨Bo.mono,tQ⟩)).less (.cons _ sR) sR nE (mR [3,0,6,7])⟩));refine go Ed 3 [] (λ_=>GR<|go Ed 3 [] (λ_=>?_));obtain rfl:r=.nil:=Ty.len0 (by have:=of_decide_eq_false h4;omega);rw[show DX l yy .nil=.nil from rfl,Ty.app_nil] at hk;refine gD 0 rfl rfl<|go Ed 13 [1,1,0] (y<|y<|y<|λ_=>?_);obtain⟨tx,kk,rfl⟩:=Ga h1;have hsw:C2 (.con tx kk) l yy=.con tx dn:=by rw[ZA];exact congrArg _ hk
 have hdk:dn.len=kk.len:=by have h9:i+0=kk.len:=hi;omega
 exact Bc (λw f hM=>AJ rfl (Ac rfl AI hM.k0 rfl)) (λw f hM=>⟨(some ⟨br1,0,none⟩,kk.len),f,(by rw[hsw];show _=Value.agg #[_,_,_,.slice _ dn.len _];rw[hdk];rfl),tQ,hM.exm,⟨by rw[hsw];exact Bo.toF hM.f1 (by have:=hM.b0;simpa[Gy,Ty.len] using this) (Nat.le_of_eq hdk),tQ⟩⟩)
theorem BJ(w:World)(f:Fq)(hv:Vl w f)(l:List Int)(la:Option Addr)(lc:Nat)(yy:Ty)(ya:Option Addr)(yc:Nat)(hl:l.length≤1000000)(hyl:yy.len≤200000)(hyb:yy.bnd)(hI:B7 w f l la lc)(hY:Ah w f yy ya yc)(t:T1)(a:Option Addr)(c:Nat)(hb:t.bnd)(hT:Ah w f t.kids a c) :
  BC prog 44 #[tV t a c,.slice la l.length lc,.slice ya yy.len yc] w (BW (α:=Option Addr×Nat) (λx=>tV (C2 t l yy) x.1 x.2) (λ_=>True) (λx=>[λw f=>Ah w f (C2 t l yy).kids x.1 x.2]) w f) :=
 MY (p:=fJ prog 44) (λw f hv l la lc yy ya yc _ _ _ _ _ t a c h=>by omega) (λm ih w f hv l la lc yy ya yc h1 h2 h3 h4 h5 t a c h6 h7 h8=>W2 m ih w f hv l la lc yy ya yc h1 h2 h3 h4 h5 t a c h6 h7 h8) (t.kids.size+1) w f hv l la lc yy ya yc hl hyl hyb hI hY t a c (Nat.lt_succ_self _) hb hT
def uA:Eh:=⟨[(57,0,0),(57,1,1),(57,3,3)],[(22,3,1),(53,57,4)],[],[],[(3,false,1),(22,false,1),(53,false,1),(57,true,4)],[(3,[.int .i64 0]),(57,[.int .i64 0,.int .i64 0,.string ⟨#[]⟩,.slice none 0 0]),(22,[.slice none 0 0])],[],[]⟩
theorem Dy:uA.Ok prog:=⟨(And.intro HS (And.intro Jq (And.intro FH tQ))),(And.intro KD (And.intro DT tQ)),tQ,tQ,(And.intro Dd (And.intro KE (And.intro Hs (And.intro AI tQ)))),(And.intro WL (And.intro DN (And.intro oX tQ))),tQ,tQ⟩
theorem WJ(m:Nat)(ih:eR prog 78 22 m)(w:World)(f:Fq)(hv:Vl w f)(ob mb:Nat)(oa:Option Addr)(oc:Nat)(l:List Int)(hV:QO 22 ob mb oa oc l w f)(hf:∀b,MT ob mb oa b→f b=0)(t:T1)(a:Option Addr)(c:Nat)(hm:t.kids.size<m+1)(hsz0:t.kids.size+1+l.length≤1000000)(hbd:t.bnd)(hT:Ah w f t.kids a c) :
  BC prog 78 #[tV t a c,.map (some mb),.pointer (some ⟨ob,0,none⟩)] w (OL (α:=Option Addr×Nat) (λ_=>.tuple #[]) (λ_=>True) (MT ob mb oa) (λx=>MT ob mb x.1) (λx=>QO 22 ob mb x.1 x.2 (CW t.one l)) (λ_=>[]) w f):=by
 have hbl:=hbd.1;refine Dl (X:=⟨MT ob mb oa,MT ob mb oa,QO 22 ob mb oa oc l,w,f⟩) (H:=[]) (R:=[]) (B:=[]) (Fs:=[λw f=>Ah w f t.kids a c]) (f:=f) func78 rfl rfl rfl (Z3 (M:=MT ob mb oa) hv hV En.stab (λb hb=>⟨hV.lt hb,hf b hb⟩) ⟨hT,tQ⟩ ⟨Ah.mono,tQ⟩)<|go Dy 13 [0] (λb1=>y<|λ_=>Ba 10 rfl rfl (λh1=>?_) (λh1=>?_));refine go Dy 7 [0] (y<|λ_=>EU rfl rfl (λw f hM=>NZ (K:=Fw) (a:=t.num) rfl rfl Nx OJ dB hM.res.map (LI hM.res.nd) (Wc t.num l))<|go Dy 3 [] (λ_=>Ba 15 rfl rfl (λh2=>?_) (λh2=>?_)));replace h2:=Gg h2;refine go Dy 6 [0] (y<|λ_=>aN (K:=Fw) (a:=t.num) (l:=HW l) (I':=En 22 ob mb (.slice oa l.length oc) (l++[t.num]) oa oc l) rfl rfl rfl rfl Nx OJ (.inr (.inl rfl)) (LI hV.nd) (Vw h2) (λw f h=>h.map) (λw f w2 h hM hC hm=>En.mapped h hC hm h2) En.stab<|go Dy 2 [] (λ_=>Dp [0] Ap (rd [0,1,2,4,5] (.br 3 (.br 6 (.br 7 (.rd 8 (.br 9 .fin .fin)) .fin) .fin) (.br 6 (.br 3 (.br 7 (.rd 8 (.br 9 .fin .fin)) .fin) .fin) .fin))) rfl kR<|AA Dy 5 [0] (y<|λ_=>Ag rfl ?_ ?_)));refine EU rfl rfl (λw f hM=>Al rfl KE hM.res.blk rfl)<|go Dy 1 [] (λ_=>Ax [0] rfl<|Ag rfl ?_ Aj);refine go Dy 2 [] (λb2=>λ_=>Ax [1] rfl<|Ag rfl ?_ Aj);refine SS (MI':=MT ob mb) (I':=λa' c'=>En 22 ob mb (.slice oa l.length oc) (l++[t.num]) a' c' (l++[t.num])) 0 rfl rfl M1 rfl rfl rfl rfl rfl rfl rfl oM oM (λw f h=>h.row) (λb h=>.inr (.inr h)) (λ_ _ h=>MT.or h) (λw f w2 a2 c2 h hM hr hG=>En.app h hr hG) (λ_ _=>En.stab) λa2 c2=>go Dy 1 [] (λ_=>Ax [1] rfl<|AA Dy 1 [] (λ_=>Ag rfl ?_ Aj));refine aK (b:=ob) (I':=En 22 ob mb (.slice a2 (l.length+1) c2) (l++[t.num]) a2 c2 (l++[t.num])) rfl rfl rfl rfl KE rfl rfl rfl (.inl rfl) (λw f h=>h.blk) (λw f w2 h hM hC hb=>En.store h hC hb) En.stab<|go Dy 1 [] (λ_=>Ax [1] rfl<|B4<|go Dy 3 [] (λ_=>?_));obtain⟨n,rfl⟩:=EF h1;have hvs:CW (T1.var n).one l=l++[n]:=by rw[Nj,if_neg (by rw[show l.contains n=false from h2];decide)]
 exact Bc (λw f hM=>Ea rfl) (λw f hM=>⟨(a2,c2),f,rfl,tQ,hM.exm,(λb hb=>let ⟨h1,h2,h3⟩:=hM.mi b hb;h3.elim (λh=>.inr ⟨h,h1,h2⟩) .inl),(by rw[hvs];have h9:=hM.res;rw[show l.length+1=(l++[n]).length by simp] at h9;exact h9),tQ⟩);refine Ag rfl ?_ Aj;refine go Dy 2 [] (λb3=>λ_=>Ax [1] rfl<|Ag rfl ?_ Aj);refine EU rfl rfl (λw f hM=>Al rfl KE hM.res.blk rfl)<|go Dy 1 [] (λ_=>Ax [1] rfl<|Ag rfl ?_ Aj);refine SS (MI':=MT ob mb) (I':=λa' c'=>En 22 ob mb (.slice oa l.length oc) (l++[t.num]) a' c' (l++[t.num])) 0 rfl rfl M1 rfl rfl rfl rfl rfl rfl rfl oM oM (λw f h=>h.row) (λb h=>.inr (.inr h)) (λ_ _ h=>MT.or h) (λw f w2 a2 c2 h hM hr hG=>En.app h hr hG) (λ_ _=>En.stab) λa2 c2=>go Dy 1 [] (λ_=>Ax [1] rfl<|AA Dy 1 [] (λ_=>Ag rfl ?_ Aj));refine aK (b:=ob) (I':=En 22 ob mb (.slice a2 (l.length+1) c2) (l++[t.num]) a2 c2 (l++[t.num])) rfl rfl rfl rfl KE rfl rfl rfl (.inl rfl) (λw f h=>h.blk) (λw f w2 h hM hC hb=>En.store h hC hb) En.stab<|go Dy 1 [] (λ_=>Ax [1] rfl<|B4<|go Dy 3 [] (λ_=>?_));obtain⟨n,rfl⟩:=EF h1;have hvs:CW (T1.var n).one l=l++[n]:=by rw[Nj,if_neg (by rw[show l.contains n=false from h2];decide)]
 exact Bc (λw f hM=>Ea rfl) (λw f hM=>⟨(a2,c2),f,rfl,tQ,hM.exm,(λb hb=>let ⟨h1,h2,h3⟩:=hM.mi b hb;h3.elim (λh=>.inr ⟨h,h1,h2⟩) .inl),(by rw[hvs];have h9:=hM.res;rw[show l.length+1=(l++[n]).length by simp] at h9;exact h9),tQ⟩);replace h2:=Gs h2;refine go Dy 5 [] (λ_=>?_);obtain⟨n,rfl⟩:=EF h1;have hvs:CW (T1.var n).one l=l:=by rw[Nj];exact if_pos h2
 exact Bc (λw f hM=>Ea rfl) (λw f hM=>⟨(oa,oc),f,rfl,tQ,hM.exm,(λb hb=>let ⟨h1,h2,h3⟩:=hM.mi b hb;h3.elim (λh=>.inr ⟨h,h1,h2⟩) .inl),(by rw[hvs];exact hM.res),tQ⟩);refine go Dy 12 [0] (y<|λ_=>?_);refine HK (α:=Nat×Ty×List Int×Option Addr×Nat) (λx=>x.2.1.len) (λx=>x.1+x.2.1.len=t.kids.len∧CW t.kids l=CW x.2.1 x.2.2.1∧x.2.1.bnd∧x.2.1.size+x.2.2.1.length≤1000000∧x.2.1.size≤t.kids.size) (λx=>(E6 1 (.map (some mb)) 2 (.pointer (some ⟨ob,0,none⟩)) 3 (.pointer (some ⟨b1,0,none⟩)) 29 (.slice a t.kids.len c) 30 (.int .i64 (t.kids.len:Int)) 31 (.int .i64 (x.1:Int)))) (λx=>⟨MT ob mb oa,MT ob mb x.2.2.2.1,QO 22 ob mb x.2.2.2.1 x.2.2.2.2 x.2.2.1,w,f⟩) (λx=>[⟨b1,tC t a c,57,true⟩]) (λx=>[]) (λx=>[]) (λx=>[λw f=>AZ w f a x.1 x.2.1]) (0,t.kids,l,oa,oc) ⟨by simp,rfl,hbd.2,(by show t.kids.size+l.length≤1000000;omega),Nat.le_refl _⟩ lE (λw f hM=>hM.more (B':=[]) (F':=[λw f=>AZ w f a 0 t.kids]) nE (A2.mem ⟨Ah.at hM.f0,tQ⟩) (Af.mem ⟨AZ.mono,tQ⟩) |>.less sR sR nE (mR [0])) ?_;rintro⟨i,r,l2,oa2,oc2⟩ ⟨hi,hk,hrb,hsz,hs⟩;dsimp only at hi hk hrb hsz hs ⊢;refine go Dy 6 [] (λ_=>Ba 32 rfl rfl (λh3=>?_) (λh3=>?_));refine go Dy 6 [] (λ_=>?_);have hil:i<t.kids.len:=by have:=of_decide_eq_true h3;omega
 obtain⟨t2,r,rfl⟩:=Ty.cases1 r oM;rw[T1.len_cons] at hi;refine C6 (α:=Nat×Nat×Option Addr×Nat) (λx=>a=some ⟨x.1,x.2.1,none⟩) (λx=>[⟨x.1,x.2.1+i*4,tC t2 x.2.2.1 x.2.2.2⟩]) (λx=>[λw f=>Ah w f t2.kids x.2.2.1 x.2.2.2,λw f=>AZ w f a (i+1) r]) (λw f hM=>let ⟨b,off,ka,kc,h1,h2,h3,h4⟩:=AZ.head hM.f0;⟨(b,off,ka,kc),h1,(oE h2),A2.mem ⟨h3,h4,tQ⟩⟩) (λx=>Af.mem ⟨Ah.mono,AZ.mono,tQ⟩) ?_;rintro⟨eb,eo,ka,kc⟩ rfl;refine go Dy 11 [100,0,0,0] (And.intro oM<|y2<|λb4=>y<|y<|λ_=>cW (XX:=λ_ _=>False) rfl rfl (eC Yo rfl rfl) (λw f hM=>(ih w f hM.vl ob mb oa2 oc2 l2 hM.res hM.mz t2 ka kc (by have:=T1.size_cons t2 r;omega) (by have:=T1.size_cons t2 r;omega) (T1.bnd_cons.1 hrb).1 hM.f0).retP) (λ_=>En.stab) (λ_=>trivial) (λ_ _ _ _ _ h=>h.elim) ?_);rintro⟨oa3,oc3⟩ -;exact go Dy 7 [] (And.intro ⟨oM,oM⟩<|λ_=>DM ((i+1,r,CW t2.one l2,oa3,oc3)) (show r.len<(t2.cons r).len by rw[T1.len_cons];omega) ⟨show i+1+r.len=t.kids.len by omega,show CW t.kids l=CW r (CW t2.one l2) by rw[hk,WC],(T1.bnd_cons.1 hrb).2,show r.size+(CW t2.one l2).length≤1000000 by have h1:=T1.size_cons t2 r;have h2:=JH t2.one l2;have h3:t2.one.size=t2.kids.size+0+1:=T1.size_cons t2 .nil;omega,show r.size≤t.kids.size by have:=T1.size_cons t2 r;omega⟩ lE (λw f hM=>⟨_,hM.less (.cons _ sR) sR nE (mR [1])⟩));refine go Dy 3 [] (λ_=>GR<|go Dy 1 [] (λ_=>?_));obtain rfl:r=.nil:=Ty.len0 (by have:=of_decide_eq_false h3;omega);obtain⟨tx,kk,rfl⟩:=Ga h1;have hvs:CW (T1.con tx kk).one l=l2:=by rw[ZZ];exact hk
 exact cL (λw f hM=>Ea rfl) (λw f hM=>⟨(oa2,oc2),f,rfl,tQ,hM.exm,(λb hb=>let ⟨h1,h2,h3⟩:=hM.mi b hb;h3.elim (λh=>.inr ⟨h,h1,h2⟩) .inl),(by rw[hvs];exact hM.res),tQ⟩)
theorem Wr(w:World)(f:Fq)(hv:Vl w f)(ob mb:Nat)(a:Option Addr)(c:Nat)(l:List Int)(hV:QO 22 ob mb a c l w f)(hf:∀b,MT ob mb a b→f b=0)(t:T1)(ta:Option Addr)(tc:Nat)(hsz:t.kids.size+1+l.length≤1000000)(hb:t.bnd)(hT:Ah w f t.kids ta tc) :
  BC prog 78 #[tV t ta tc,.map (some mb),.pointer (some ⟨ob,0,none⟩)] w (OL (α:=Option Addr×Nat) (λ_=>.tuple #[]) (λ_=>True) (MT ob mb a) (λx=>MT ob mb x.1) (λx=>QO 22 ob mb x.1 x.2 (CW t.one l)) (λ_=>[]) w f) :=
 MY (p:=eR prog 78 22) (λw f hv ob mb a c l _ _ t ta tc h=>by omega) (λm ih w f hv ob mb a c l h1 h2 t ta tc h3 h4 h5 h6=>WJ m ih w f hv ob mb a c l h1 h2 t ta tc h3 h4 h5 h6) (t.kids.size+1) w f hv ob mb a c l hV hf t ta tc (Nat.lt_succ_self _) hsz hb hT
theorem Hi(w:World)(f:Fq)(hv:Vl w f)(t:T1)(a:Option Addr)(c:Nat)(hsz:t.kids.size+1≤1000000)(hb:t.bnd)(hT:Ah w f t.kids a c) :
  BC prog 52 #[tV t a c] w (BW (α:=Option Addr×Nat) (λx=>.slice x.1 (Aq t).length x.2) (λ_=>True) (λx=>[λw f=>B7 w f (Aq t) x.1 x.2]) w f):=by
 refine Dl (X:=X0 w f) (H:=[]) (R:=[]) (B:=[]) (Fs:=[λw f=>Ah w f t.kids a c]) (f:=f) func52 rfl rfl rfl (C8 hv ⟨hT,tQ⟩ ⟨Ah.mono,tQ⟩)<|go Dy 14 [1] (λb1=>λb2=>y<|λ_=>rY (K:=Fw) rfl rfl λm1=>pL 0 rfl rfl<|KA (λw f hM=>(λe=>(by have h1:=hM.res.1.2.lt;have h2:=hM.res.2;subst e;obtain⟨es,c,h3,_⟩:=hM.res.1.2;have h4:=h2.symm.trans h3;cases h4):b2≠m1)) λhne=>cW (α:=Option Addr×Nat) (val:=λ_=>.tuple #[]) (q:=λ_=>True) (MI':=λx=>MT b2 m1 x.1) (I':=λx=>QO 22 b2 m1 x.1 x.2 (Aq t)) (F':=λ_=>[]) (XX:=λ_ _=>False) rfl rfl (eC Yo rfl rfl) (λw f hM=>((Wr w f hM.vl b2 m1 none 0 [] ⟨hM.res.2,hM.res.1.2,GU _ _ _,⟨hne,by simp[rb],by simp[rb]⟩,List.nodup_nil⟩ (λb hb=>(hM.mi b (hb.elim .inr (λh=>h.elim (λh=>.inl (.inr h)) (λh=>by cases h)))).2.1) t a c hsz hb hM.f0).mono λv w2 ⟨x,f2,h1,h2,h3,h4,h5,h6⟩=>⟨x,f2,h1,h2,h3.mono (λb hb=>hb.elim .inr (λh=>h.elim (λh=>.inl (.inr h)) (λh=>by cases h))),(λb hb=>(h4 b hb).imp (λhb=>hb.elim .inr (λh=>h.elim (λh=>.inl (.inr h)) (λh=>by cases h))) id),h5,h6⟩).retP) (λ_=>En.stab) (λ_=>trivial) (λ_ _ _ _ _ h=>h.elim) ?_);rintro⟨oa3,oc3⟩ -;exact go Dy 4 [] (λ_=>EU rfl rfl (λw f hM=>Al rfl KE hM.res.blk rfl)<|go Dy 4 [] (λ_=>Bc (DI rfl rfl) (λw f hM=>let ⟨f2,hE,hF⟩:=En.int hM.res hM.exm (λb hb=>(hM.mi b (.inr (.inr hb))).2.2.elim id (λh=>h.elim));⟨(oa3,oc3),f2,rfl,tQ,hE,⟨hF,tQ⟩⟩)))
end Go.Proofs.YtegedalegfadgaaGreatDoor
namespace Go.Proofs
open Go.Shelf
def Tryz.lays156_ren:Go.Shelf.Ren:=⟨λ|156=>81|165=>104|166=>105|169=>106|240=>126|241=>127|276=>149|277=>150|n=>n,λ|31=>131|9=>9|3=>3|4=>4|0=>0|20=>20|72=>169|76=>173|70=>167|37=>148|75=>172|127=>196|164=>225|5=>5|80=>175|n=>n,λ|n=>n⟩
theorem Tryz.lays156:Go.Proofs.Lays.n156 prog Tryz.lays156_ren:={
 mixed:=kR
 f156:=func81.trans (congrArg some kR)
 f165:=func104.trans (congrArg some kR)
 f166:=func105.trans (congrArg some kR)
 f169:=func106.trans (congrArg some kR)
 f240:=func126.trans (congrArg some kR)
 f241:=func127.trans (congrArg some kR)
 f276:=func149.trans (congrArg some kR)
 f277:=func150.trans (congrArg some kR)
 t0:=underlying0
 a0:=isAgg0
 z0:=sizeOf0
 v0:=zeroValue0
 t3:=underlying3
 a3:=isAgg3
 z3:=sizeOf3
 v3:=zeroValue3
 t4:=underlying4
 a4:=isAgg4
 z4:=sizeOf4
 v4:=zeroValue4
 t9:=underlying9
 a9:=isAgg9
 z9:=sizeOf9
 v9:=zeroValue9
 t20:=underlying20
 a20:=isAgg20
 z20:=sizeOf20
 v20:=zeroValue20
 t31:=underlying131
 a31:=isAgg131
 z31:=sizeOf131
 v31:=zeroValue131
 t37:=underlying148
 a37:=isAgg148
 z37:=sizeOf148
 v37:=zeroValue148
 t70:=underlying167
 a70:=isAgg167
 z70:=sizeOf167
 v70:=zeroValue167
 t72:=underlying169
 a72:=isAgg169
 z72:=sizeOf169
 v72:=zeroValue169
 t75:=underlying172
 a75:=isAgg172
 z75:=sizeOf172
 v75:=zeroValue172
 t76:=underlying173
 a76:=isAgg173
 z76:=sizeOf173
 v76:=zeroValue173
 t127:=underlying196
 a127:=isAgg196
 z127:=sizeOf196
 v127:=zeroValue196
 t164:=underlying225
 a164:=isAgg225
 z164:=sizeOf225
 v164:=zeroValue225}
def Tryz.lays171_ren:Go.Shelf.Ren:=⟨λ|171=>80|243=>103|246=>125|283=>145|284=>146|285=>147|286=>148|129=>162|317=>161|318=>163|319=>164|320=>165|337=>175|338=>176|n=>n,λ|3=>3|9=>9|2=>2|4=>4|171=>220|0=>0|53=>23|37=>148|5=>5|173=>223|212=>243|51=>190|20=>20|213=>244|46=>177|232=>288|233=>289|n=>n,λ|17=>4|18=>12|19=>13|n=>n⟩
theorem Tryz.lays171:Go.Proofs.Lays.n171 prog Tryz.lays171_ren:={
 mixed:=kR
 f129:=func162.trans (congrArg some kR)
 f171:=func80.trans (congrArg some kR)
 f243:=func103.trans (congrArg some kR)
 f246:=func125.trans (congrArg some kR)
 f283:=func145.trans (congrArg some kR)
 f284:=func146.trans (congrArg some kR)
 f285:=func147.trans (congrArg some kR)
 f286:=func148.trans (congrArg some kR)
 f317:=func161.trans (congrArg some kR)
 f318:=func163.trans (congrArg some kR)
 f319:=func164.trans (congrArg some kR)
 f320:=func165.trans (congrArg some kR)
 f337:=func175.trans (congrArg some kR)
 f338:=func176.trans (congrArg some kR)
 t0:=underlying0
 a0:=isAgg0
 z0:=sizeOf0
 v0:=zeroValue0
 t2:=underlying2
 a2:=isAgg2
 z2:=sizeOf2
 v2:=zeroValue2
 t3:=underlying3
 a3:=isAgg3
 z3:=sizeOf3
 v3:=zeroValue3
 t4:=underlying4
 a4:=isAgg4
 z4:=sizeOf4
 v4:=zeroValue4
 t5:=underlying5
 a5:=isAgg5
 z5:=sizeOf5
 v5:=zeroValue5
 t9:=underlying9
 a9:=isAgg9
 z9:=sizeOf9
 v9:=zeroValue9
 t20:=underlying20
 a20:=isAgg20
 z20:=sizeOf20
 v20:=zeroValue20
 t37:=underlying148
 a37:=isAgg148
 z37:=sizeOf148
 v37:=zeroValue148
 t46:=underlying177
 a46:=isAgg177
 z46:=sizeOf177
 v46:=zeroValue177
 t51:=underlying190
 a51:=isAgg190
 z51:=sizeOf190
 v51:=zeroValue190
 t53:=underlying23
 a53:=isAgg23
 z53:=sizeOf23
 v53:=zeroValue23
 t171:=underlying220
 a171:=isAgg220
 z171:=sizeOf220
 v171:=zeroValue220
 t173:=underlying223
 a173:=isAgg223
 z173:=sizeOf223
 v173:=zeroValue223
 t212:=underlying243
 a212:=isAgg243
 z212:=sizeOf243
 v212:=zeroValue243
 t213:=underlying244
 a213:=isAgg244
 z213:=sizeOf244
 t232:=underlying288
 a232:=isAgg288
 z232:=sizeOf288
 v232:=zeroValue288
 t233:=underlying289
 a233:=isAgg289
 z233:=sizeOf289
 v233:=zeroValue289
 g17:=kR
 g18:=kR
 g19:=by kernel_rfl}
def Tryz.lays157_ren:Go.Shelf.Ren:=⟨λ|157=>67|229=>95|199=>96|261=>119|311=>142|312=>143|n=>n,λ|9=>9|31=>131|3=>3|5=>5|4=>4|119=>157|0=>0|40=>159|152=>187|21=>21|154=>189|51=>190|141=>192|196=>210|193=>207|198=>213|49=>211|194=>208|201=>216|226=>240|46=>177|227=>241|n=>n,λ|0=>0|6=>1|n=>n⟩
theorem Tryz.lays157:Go.Proofs.Lays.n157 prog Tryz.lays157_ren:={
 mixed:=kR
 f157:=func67.trans (congrArg some kR)
 f199:=func96.trans (congrArg some kR)
 f229:=func95.trans (congrArg some kR)
 f261:=func119.trans (congrArg some kR)
 f311:=func142.trans (congrArg some kR)
 f312:=func143.trans (congrArg some kR)
 t0:=underlying0
 a0:=isAgg0
 z0:=sizeOf0
 v0:=zeroValue0
 t3:=underlying3
 a3:=isAgg3
 z3:=sizeOf3
 v3:=zeroValue3
 t4:=underlying4
 a4:=isAgg4
 z4:=sizeOf4
 v4:=zeroValue4
 t5:=underlying5
 a5:=isAgg5
 z5:=sizeOf5
 v5:=zeroValue5
 t9:=underlying9
 a9:=isAgg9
 z9:=sizeOf9
 v9:=zeroValue9
 t21:=underlying21
 a21:=isAgg21
 z21:=sizeOf21
 v21:=zeroValue21
 t31:=underlying131
 a31:=isAgg131
 z31:=sizeOf131
 v31:=zeroValue131
 t40:=underlying159
 a40:=isAgg159
 z40:=sizeOf159
 v40:=zeroValue159
 t46:=underlying177
 a46:=isAgg177
 z46:=sizeOf177
 v46:=zeroValue177
 t49:=underlying211
 a49:=isAgg211
 z49:=sizeOf211
 v49:=zeroValue211
 t51:=underlying190
 a51:=isAgg190
 z51:=sizeOf190
 v51:=zeroValue190
 t119:=underlying157
 a119:=isAgg157
 z119:=sizeOf157
 t141:=underlying192
 a141:=isAgg192
 z141:=sizeOf192
 v141:=zeroValue192
 t152:=underlying187
 a152:=isAgg187
 z152:=sizeOf187
 v152:=zeroValue187
 t154:=underlying189
 a154:=isAgg189
 z154:=sizeOf189
 v154:=zeroValue189
 t193:=underlying207
 a193:=isAgg207
 z193:=sizeOf207
 v193:=zeroValue207
 t194:=underlying208
 a194:=isAgg208
 z194:=sizeOf208
 v194:=zeroValue208
 t196:=underlying210
 a196:=isAgg210
 z196:=sizeOf210
 v196:=zeroValue210
 t198:=underlying213
 a198:=isAgg213
 z198:=sizeOf213
 v198:=zeroValue213
 t201:=underlying216
 a201:=isAgg216
 z201:=sizeOf216
 v201:=zeroValue216
 t226:=underlying240
 a226:=isAgg240
 z226:=sizeOf240
 v226:=zeroValue240
 t227:=underlying241
 a227:=isAgg241
 z227:=sizeOf241
 v227:=zeroValue241
 g0:=kR
 g6:=by kernel_rfl}
end Go.Proofs
namespace Go.Proofs.YtegedalegfadgaaGreatDoor
open Go.SW Go.SP Go.RowKit Go.Shelf Go.Proofs.Tryz
theorem WD(w:World)(f:Fq)(hv:Vl w f)(i:Nat)(hi:i<100):BC prog 80 #[.int .i64 (i:Int)] w (BW (α:=Unit) (λ_=>S (Lib.decDigits i)) (λ_=>True) (λ_=>[]) w f) :=
 Calls.mono (Any.strconv_Itoa_small Tryz.lays171 i hi w) λ_ _ ⟨he,hw⟩=>⟨_,he,(),f,rfl,tQ,(by subst hw;exact CR.refl _ hv),tQ⟩
theorem xV:Builder.Extra prog Tryz.lays156_ren where
 sizeBuilder:=kR
 liesBuilder:=kR
 t5:=underlying5
 a5:=isAgg5
 z5:=sizeOf5
 v5:=zeroValue5
 infoByte:=kR
 cellsByte:=kR
 sizeByte:=kR
 neB5:=dC
theorem Xt(w:World)(f:Fq)(hv:Vl w f)(bk o c:Nat)(l:List lU)(s:lU)(hc:Cs w f bk o (l.map S))(h0:0<l.length)(hN:l.length≤1000000)(hcap:l.length≤c)(hlen:(Lib.join l s).length≤140737488355328) :
   BC prog 81 #[.slice (some ⟨bk,o,none⟩) l.length c,S s] w (BW (α:=Unit) (λ_=>S (Lib.join l s)) (λ_=>True) (λ_=>[]) w f):=by
 have e1:(l.map λx=>(⟨x.toArray⟩:ByteArray)).map (·.data.toList)=l:=by rw[List.map_map];exact List.map_id' l
 have hbk:bk<w.heap.size:=by
   obtain⟨x,hx⟩:∃x,l[0]?=some x:=⟨_,List.getElem?_eq_getElem h0⟩;exact IZ (hc 0 (S x) (by rw[List.getElem?_map,hx];rfl)).2
 have h:=Any.strings_Join Tryz.lays156 xV bk o c (l.map λx=>⟨x.toArray⟩) ⟨s.toArray⟩ w (λj x hj=>by
   rw[List.getElem?_map] at hj
   cases hx:l[j]? with
   |none=>rw[hx] at hj;cases hj
   |some y=>rw[hx] at hj;cases hj;exact (hc j (S y) (by rw[List.getElem?_map,hx];rfl)).2) hbk (by rw[List.length_map];omega) (by rw[List.length_map];exact hcap) (by rw[e1];exact hlen)
 rw[e1,List.length_map] at h;exact Calls.mono h λ_ _ ⟨he,hw⟩=>⟨_,he,(),f,rfl,tQ,Go.SW.Below.exm hw hv _,tQ⟩
end Go.Proofs.YtegedalegfadgaaGreatDoor
namespace Go.Proofs.YtegedalegfadgaaGreatDoor
open Go.SW Go.SP Go.RowKit Go.Proofs.Tryz
def tX:Eh:=⟨[(57,0,0),(57,1,1),(57,3,3),(57,2,2)],[(53,57,4),(131,9,1)],[],[],[(3,false,1),(53,false,1),(9,false,1),(57,true,4)],[(9,[.string ⟨#[]⟩]),(57,[.int .i64 0,.int .i64 0,.string ⟨#[]⟩,.slice none 0 0])],[],[]⟩
theorem EO:tX.Ok prog:=⟨(And.intro HS (And.intro Jq (And.intro FH (And.intro QV tQ)))),(And.intro DT (And.intro YM tQ)),tQ,tQ,(And.intro Dd (And.intro Hs (And.intro GX (And.intro AI tQ)))),(And.intro tA (And.intro DN tQ)),tQ,tQ⟩
theorem Re(w:World)(f:Fq)(hv:Vl w f)(n:Nat)(hn:n<2000) :
  BC prog 56 #[.int .i64 (n:Int)] w (BW (α:=Unit) (λ_=>S (Ec n)) (λ_=>True) (λ_=>[]) w f):=by
 have hdl:(Lib.decDigits (n / 26)).length≤20:=by rw[← Qr 19 (n / 26) (by omega)];exact N8 20 _
 refine Dl (X:=X0 w f) (H:=[]) (R:=[]) (B:=[]) (Fs:=[]) (f:=f) func56 rfl rfl rfl (C8 hv tQ tQ)<|go EO 8 [] (λ_=>EU rfl rfl (λw f hM=>dV ((n % 26:Nat):Int) rfl rfl dC (by rw[Int.tmod_eq_emod_of_nonneg (by omega)];omega))<|go EO 1 [] (And.intro ⟨oM,oM⟩<|λ_=>EU rfl rfl (λw f hM=>D3 (m:=97+((n % 26:Nat):Int)) rfl dL (by unfold IntKind.wrap;simp[IntKind.bits,IntKind.signed];omega))<|EU rfl rfl (λw f hM=>mH rfl dE (Uk n))<|go EO 11 [] (And.intro (by simp <;> omega)<|λ_=>Ba 11 rfl rfl (λh1=>?_) (λh1=>?_))));refine go EO 4 [] (λ_=>EU rfl rfl (λw f hM=>bQ ((n / 26:Nat):Int) rfl rfl dC (by rw[Int.tdiv_eq_ediv_of_nonneg (by omega),Ji (by omega)];omega))<|BA rfl rfl (eC iX rfl rfl) (λw f hM=>WD w f hM.vl (n / 26) oM) (λx=>trivial) ?_);rintro⟨⟩ -;refine go EO 11 [] (And.intro (by simp <;> omega)<|λ_=>?_);have hlt:Ec n=[39,UInt8.ofNat (97+n % 26)]++Lib.decDigits (n / 26):=by unfold Ec;rw[if_neg (by have:=of_decide_eq_true h1;omega),Qr 19 (n / 26) (by omega)]
 exact Bc (DI rfl rfl) (λw f hM=>⟨(),f,(by rw[hlt];rfl),tQ,hM.exm,tQ⟩);refine go EO 10 [] (λ_=>?_);have hlt:Ec n=[39,UInt8.ofNat (97+n % 26)]:=by unfold Ec;rw[if_pos (by have:=of_decide_eq_false h1;omega)];rfl
 exact Bc (DI rfl rfl) (λw f hM=>⟨(),f,(by rw[hlt];rfl),tQ,hM.exm,tQ⟩)
theorem W7(m:Nat)(ih:gM prog 57 m)(w:World)(f:Fq)(hv:Vl w f)(mb:Nat)(vs:List Int)(es:List (Int×Value))(hMp:Cm Fw w mb es)(hL:Mj vs es)(t:T1)(a:Option Addr)(c:Nat)(hm:t.kids.size<m+1)(hsz:t.kids.size≤1000000)(hbd:t.bnd)(hT:Ah w f t.kids a c) :
  BC prog 57 #[tV t a c,.map (some mb)] w (BW (α:=Unit) (λ_=>S (OG vs t)) (λ_=>True) (λ_=>[]) w f):=by
 have hbl:=hbd.1;have hlm:=hMp.lt;refine Dl (X:=X0 w f) (H:=[]) (R:=[]) (B:=[]) (Fs:=[λw f=>Ah w f t.kids a c]) (f:=f) func57 rfl rfl rfl (C8 hv ⟨hT,tQ⟩ ⟨Ah.mono,tQ⟩)<|go EO 16 [0] (λb1=>y<|λ_=>Ba 8 rfl rfl (λh1=>?_) (λh1=>?_));refine go EO 6 [0] (y<|λ_=>EU rfl rfl (λw f hM=>NZ (K:=Fw) (a:=t.num) rfl rfl YD OJ sF (hMp.heap (hM.exm.stp.block mb hlm (λh=>h))) hL.1 (hL.get t.num))<|go EO 6 [] (λ_=>?_));obtain⟨n,rfl⟩:=EF h1;exact Bc (DI rfl rfl) (λw f hM=>⟨(),f,rfl,tQ,hM.exm,tQ⟩);refine go EO 10 [0] (y<|λ_=>Ba 16 rfl rfl (λh2=>?_) (λh2=>?_));refine go EO 11 [0] (y<|λ_=>?_);obtain⟨tx,kk,rfl⟩:=Ga h1;obtain rfl:kk=.nil:=Ty.len0 (by have h9:=beq_iff_eq.1 h2;simp only[T1.kids] at h9;omega);exact Bc (DI rfl rfl) (λw f hM=>⟨(),f,(by rw[Vy];rfl),tQ,hM.exm,tQ⟩);refine go EO 22 [0,1] (y<|λb2=>y<|λ_=>rE 0 1 1 rfl rfl rfl dC ?_);refine HK (α:=Nat×Ty×List lU×Option Addr×Nat) (λx=>x.2.1.len) (λx=>x.1+x.2.1.len=t.kids.len∧x.2.2.1.length=x.1∧DW vs t.kids=Lib.joinTail [32] x.2.2.1++DW vs x.2.1∧x.2.1.bnd∧x.2.1.size≤t.kids.size) (λx=>(E6 1 (.map (some mb)) 2 (.pointer (some ⟨b1,0,none⟩)) 5 (.slice x.2.2.2.1 (x.1+1) x.2.2.2.2) 27 (.slice a t.kids.len c) 28 (.int .i64 (t.kids.len:Int)) 29 (.int .i64 (x.1:Int)))) (λx=>X0 w f) (λx=>[⟨b1,tC t a c,57,true⟩]) (λx=>[⟨9,1,x.2.2.2.1,x.2.2.2.2,x.1+1,(t.tx::x.2.2.1).map S⟩]) (λx=>[]) (λx=>[λw f=>AZ w f a x.1 x.2.1]) (0,t.kids,[],some ⟨b2,0,none⟩,1) ⟨by simp,rfl,rfl,hbd.2,Nat.le_refl _⟩ lE (λw f hM=>hM.more (B':=[]) (F':=[λw f=>AZ w f a 0 t.kids]) nE (A2.mem ⟨Ah.at hM.f0,tQ⟩) (Af.mem ⟨AZ.mono,tQ⟩) |>.less sR sR nE (mR [0])) ?_;rintro⟨i,r,l,ra,rc⟩ ⟨hi,hl,hk,hrb,hs⟩;dsimp only at hi hl hk hrb hs ⊢;refine go EO 6 [] (λ_=>Ba 30 rfl rfl (λh3=>?_) (λh3=>?_));refine go EO 6 [] (λ_=>?_);have hil:i<t.kids.len:=by have:=of_decide_eq_true h3;omega
 obtain⟨t2,r,rfl⟩:=Ty.cases1 r oM;rw[T1.len_cons] at hi;refine C6 (α:=Nat×Nat×Option Addr×Nat) (λx=>a=some ⟨x.1,x.2.1,none⟩) (λx=>[⟨x.1,x.2.1+i*4,tC t2 x.2.2.1 x.2.2.2⟩]) (λx=>[λw f=>Ah w f t2.kids x.2.2.1 x.2.2.2,λw f=>AZ w f a (i+1) r]) (λw f hM=>let ⟨b,off,ka,kc,h1,h2,h3,h4⟩:=AZ.head hM.f0;⟨(b,off,ka,kc),h1,(oE h2),A2.mem ⟨h3,h4,tQ⟩⟩) (λx=>Af.mem ⟨Ah.mono,AZ.mono,tQ⟩) ?_;rintro⟨eb,eo,ka,kc⟩ rfl;refine go EO 11 [100,0,0,0] (And.intro oM<|y2<|λb3=>y<|y<|λ_=>BA rfl rfl (eC Z0 rfl rfl) (λw f hM=>ih w f hM.vl mb vs es (hMp.heap (hM.exm.stp.block mb hlm (λh=>h))) hL t2 ka kc (by have:=T1.size_cons t2 r;omega) (by have:=T1.size_cons t2 r;omega) (T1.bnd_cons.1 hrb).1 hM.f0) (λx=>trivial) ?_);rintro⟨⟩ -;exact go EO 1 [] (λb4=>λ_=>DR 0 0 rfl rfl nA rfl rfl rfl rfl rfl rfl rfl rfl (λ_ _=>rfl) oM oM λra2 rc2=>go EO 8 [] (And.intro ⟨oM,oM⟩<|λ_=>DM ((i+1,r,l++[OG vs t2],ra2,rc2)) (show r.len<(t2.cons r).len by rw[T1.len_cons];omega) ⟨show i+1+r.len=t.kids.len by omega,show (l++[OG vs t2]).length=i+1 by simp[hl],show DW vs t.kids=Lib.joinTail [32] (l++[OG vs t2])++DW vs r by rw[hk,Mn,TI];simp,(T1.bnd_cons.1 hrb).2,show r.size≤t.kids.size by have:=T1.size_cons t2 r;omega⟩ lE (λw f hM=>⟨_,by have hM2:=hM.less (H':=[⟨b1,tC t (some ⟨eb,eo,none⟩) c,57,true⟩]) (R':=[⟨9,1,ra2,rc2,i+1+1,(t.tx::l).map S++[S (OG vs t2)]⟩]) (B':=[]) (F':=[λw f=>AZ w f (some ⟨eb,eo,none⟩) (i+1) r]) (.cons _ (.cons _ sR)) sR nE (mR [1]);rw[show (t.tx::l).map S++[S (OG vs t2)]=(t.tx::(l++[OG vs t2])).map S by simp] at hM2;exact hM2⟩)));refine go EO 3 [] (λ_=>GR<|go EO 3 [] (λ_=>?_));obtain rfl:r=.nil:=Ty.len0 (by have:=of_decide_eq_false h3;omega);rw[show DW vs .nil=[] from rfl,List.append_nil] at hk;refine KA (λw f hM=>(let ⟨_,h⟩:=hM.row _ (.head _);h.elim (λh=>by simp at h) (λ⟨b,q,h1,h2,h3,_⟩=>⟨b,h1,h3⟩):∃b,ra=some ⟨b,0,none⟩∧i+1≤rc)) λhra=>?_;obtain⟨rb1,rfl,hrc⟩:=hra;refine gD 0 rfl rfl ?_;have hjn:Lib.join (t.tx::l) [32]=t.tx++DW vs t.kids:=by rw[Lib.join_cons,hk]
 have hjl:(t.tx++DW vs t.kids).length≤1100000000000:=by have h1:=LM vs t.kids hbd.2;have h2:=hbl.2;rw[List.length_append];omega
 refine go EO 2 [] (λ_=>BA (α:=Unit) (val:=λ_=>S (t.tx++DW vs t.kids)) (q:=λ_=>True) (F':=λ_=>[]) rfl rfl (eC jA rfl rfl) (λw f hM=>(by have h9:=Xt w f hM.vl rb1 0 rc (t.tx::l) [32] hM.b0 (by simp) (by simp;omega) (by simp;omega) (by rw[hjn];omega);rw[hjn,show (t.tx::l).length=i+1 by simp[hl]] at h9;exact h9)) (λx=>trivial) ?_);rintro⟨⟩ -;refine go EO 6 [] (And.intro (by simp at hjl ⊢;omega)<|And.intro (by simp at hjl ⊢;omega)<|λ_=>?_);obtain⟨tx,kk,rfl⟩:=Ga h1;have hsc:=ZB vs tx kk (by have h9:¬(kk.len:Int)=0:=(by simpa[T1.kids] using h2);omega);exact Bc (DI rfl rfl) (λw f hM=>⟨(),f,(by rw[hsc];rfl),tQ,hM.exm,tQ⟩)
theorem Xl(w:World)(f:Fq)(hv:Vl w f)(mb:Nat)(vs:List Int)(es:List (Int×Value))(hMp:Cm Fw w mb es)(hL:Mj vs es)(t:T1)(a:Option Addr)(c:Nat)(hsz:t.kids.size≤1000000)(hb:t.bnd)(hT:Ah w f t.kids a c) :
  BC prog 57 #[tV t a c,.map (some mb)] w (BW (α:=Unit) (λ_=>S (OG vs t)) (λ_=>True) (λ_=>[]) w f) :=
 MY (p:=gM prog 57) (λw f hv mb vs es _ _ t a c h=>by omega) (λm ih w f hv mb vs es h1 h2 t a c h3 h4 h5 h6=>W7 m ih w f hv mb vs es h1 h2 t a c h3 h4 h5 h6) (t.kids.size+1) w f hv mb vs es hMp hL t a c (Nat.lt_succ_self _) hsz hb hT
def vE:Eh:=⟨[],[(22,3,1)],[],[],[(57,true,4),(3,false,1)],[(130,[.map none,.int .i64 0,.int .i64 0])],[(130,[(0,1),(1,1),(2,1)])],[]⟩
theorem HE:vE.Ok prog:=⟨tQ,(And.intro KD tQ),tQ,tQ,(And.intro AI (And.intro Dd tQ)),(And.intro kN tQ),(And.intro lX tQ),tQ⟩
theorem FE(w:World)(f:Fq)(hv:Vl w f)(l:List Int)(a:Option Addr)(c:Nat)(n:Int)(hl:l.length≤1000000)(hI:B7 w f l a c) :
  BC prog 77 #[.slice a l.length c,.int .i64 n] w (BW (α:=Unit) (λ_=>.bool (l.contains n)) (λ_=>True) (λ_=>[]) w f):=by
 refine Dl (X:=X0 w f) (H:=[]) (R:=[]) (B:=[]) (Fs:=[λw f=>B7 w f l a c]) (f:=f) func77 rfl rfl rfl (C8 hv ⟨hI,tQ⟩ ⟨B7.mono,tQ⟩)<|go HE 9 [] (λ_=>BA rfl rfl (eC aF rfl rfl) (λw f hM=>M3 w f hM.vl l a c n hl hM.f0) (λx=>trivial) ?_);rintro⟨⟩ -;exact go HE 5 [] (λ_=>Bc (DI rfl rfl) (λw f hM=>⟨(),f,(by congr 1;cases hx:DS l n with|none=>rw[X9,hx,Pb hx];rfl|some i=>rw[X9,hx,(Mw hx).1];simp),tQ,hM.exm,tQ⟩))
theorem XZ(w:World)(f:Fq)(hv:Vl w f) :
  BC prog 41 #[] w (OL (α:=Nat×Nat) (λx=>.pointer (some ⟨x.1,0,none⟩)) (λx=>x.1≠x.2) (λ_=>False) (λx=>MJ x.1 x.2) (λx=>BQ 130 x.1 x.2 [] 0 0) (λ_=>[]) w f):=by
 exact Dl (X:=X0 w f) (H:=[]) (R:=[]) (B:=[]) (Fs:=[]) (f:=f) func41 rfl rfl rfl (C8 hv tQ tQ)<|go HE 7 [] (λ_=>rY (K:=Fw) rfl rfl λm1=>go HE 6 [] (λb1=>λ_=>pL 0 rfl rfl<|Bc (DI rfl rfl) (λw f hM=>⟨(b1,m1),f,rfl,kJ hM.res.2 hM.res.1.2,hM.exm,(λb hb=>let ⟨h1,h2,h3⟩:=hM.mi b (hb.elim .inr (λh=>.inl (.inr h)));h3.elim (λh=>.inr ⟨h,h1,h2⟩) .inl),BQ.new hM.res.2 hM.res.1.2,tQ⟩)))
theorem X4(w:World)(f:Fq)(hv:Vl w f)(t:T1)(a:Option Addr)(c:Nat)(hsz:t.kids.size+1≤1000)(hb:t.bnd)(hT:Ah w f t.kids a c) :
  BC prog 24 #[tV t a c] w (BW (α:=Unit) (λ_=>S (M8 t)) (λ_=>True) (λ_=>[]) w f):=by
 have hvl:=Hn t;have hnd:(Aq t).Nodup:=Jd _ _ List.nodup_nil;refine Dl (X:=X0 w f) (H:=[]) (R:=[]) (B:=[]) (Fs:=[λw f=>Ah w f t.kids a c]) (f:=f) func24 rfl rfl rfl (C8 hv ⟨hT,tQ⟩ ⟨Ah.mono,tQ⟩)<|go HE 8 [] (λb1=>λ_=>rY (K:=Fw) rfl rfl λm1=>go HE 7 [0] (y<|λ_=>BA rfl rfl (eC Mo rfl rfl) (λw f hM=>Hi w f hM.vl t a c oM hb hM.f0) (λx=>⟨B7.mono,tQ⟩) ?_));rintro⟨va,vc⟩ -;refine go HE 5 [] (λ_=>?_);refine HK (α:=Nat×List (Int×Value)) (λx=>(Aq t).length-x.1) (λx=>x.1≤(Aq t).length∧Mj ((Aq t).take x.1) x.2) (λx=>(E5 1 (.pointer (some ⟨b1,0,none⟩)) 3 (.map (some m1)) 8 (.slice va (Aq t).length vc) 9 (.int .i64 ((Aq t).length:Int)) 10 (.int .i64 (x.1:Int)))) (λx=>⟨λ_=>False,λb=>False∨b=m1,λw f=>True∧Cm Fw w m1 x.2,w,f⟩) (λx=>[⟨b1,tC t a c,57,true⟩]) (λx=>[]) (λx=>[]) (λx=>[λw f=>B7 w f (Aq t) va vc,λw f=>Ah w f t.kids a c]) (0,[]) ⟨Nat.zero_le _,Mj.nil⟩ lE (λw f hM=>hM) ?_;rintro⟨i,es⟩ ⟨hi,hL⟩;dsimp only at hi hL ⊢;refine go HE 6 [] (λ_=>Ba 11 rfl rfl (λh1=>?_) (λh1=>?_));refine go HE 6 [] (λ_=>?_);have hil:i<(Aq t).length:=by have:=of_decide_eq_true h1;omega
 obtain⟨v0,hx⟩:∃v,(Aq t)[i]?=some v:=⟨_,List.getElem?_eq_getElem hil⟩;have hst:=hL.snoc (TO hnd hx);refine C6 (α:=Nat×Nat) (λx=>va=some ⟨x.1,x.2,none⟩) (λx=>[⟨x.1,x.2+i*1,[.int .i64 v0]⟩]) (λx=>[]) (λw f hM=>let ⟨b,off,h1,h2⟩:=B7.get hM.f0 hx;⟨(b,off),h1,(oE h2),λ_ h=>by cases h⟩) (λx=>Af.mem tQ) ?_;rintro⟨b,off⟩ rfl;refine go HE 12 [100,0] (And.intro oM<|y2<|λ_=>BA rfl rfl (eC lD rfl rfl) (λw f hM=>Re w f hM.vl i oM) (λx=>trivial) ?_);rintro⟨⟩ -;exact aN (K:=Fw) (a:=v0) (l:=es) (I':=λw f=>True∧Cm Fw w m1 ((v0,S (Ec i))::es)) rfl rfl rfl rfl YD OJ (.inr rfl) hL.1 hst.1 (λw f h=>h.2) (λw f w2 h hM hC hm=>⟨tQ,hm⟩) (λ_ _ _ _ h _ hb=>⟨tQ,h.2.heap (hb _ (.inr rfl))⟩)<|go HE 7 [] (And.intro ⟨oM,oM⟩<|λ_=>DM ((i+1,(v0,S (Ec i))::es)) (show (Aq t).length-(i+1)<(Aq t).length-i by omega) ⟨by show i+1≤_;omega,by show Mj ((Aq t).take (i+1)) _;rw[D1 hx];have h9:=hst.2;rw[List.length_take,Nat.min_eq_left (Nat.le_of_lt hil)] at h9;exact h9⟩ lE (λw f hM=>⟨_,hM.less sR sR nE (λ_ h=>h)⟩));refine go HE 3 [] (λ_=>GR<|go HE 3 [] (λ_=>?_));rw[List.take_of_length_le (by have:=of_decide_eq_false h1;omega)] at hL;refine go HE 3 [0] (y<|λ_=>BA rfl rfl (eC Z0 rfl rfl) (λw f hM=>Xl w f hM.vl m1 (Aq t) es hM.res.2 hL t a c oM hb hM.f1) (λx=>trivial) ?_);rintro⟨⟩ -;exact go HE 4 [] (λ_=>Bc (DI rfl rfl) (λw f hM=>⟨(),f,rfl,tQ,hM.exm,tQ⟩))
def QY:Eh:=⟨[(65,0,0)],[],[],[],[(26,true,2),(57,true,4)],[(48,[.int .i64 0,.int .i64 0,.int .i64 0]),(57,[.int .i64 0,.int .i64 0,.string ⟨#[]⟩,.slice none 0 0])],[(48,[(0,2),(2,1)])],[]⟩
theorem Fb:QY.Ok prog:=⟨(And.intro Ky tQ),tQ,tQ,tQ,(And.intro Db (And.intro AI tQ)),(And.intro eM (And.intro DN tQ)),(And.intro pZ tQ),tQ⟩
theorem Ki(w:World)(f:Fq)(hv:Vl w f)(ln co e:Int) :
  BS prog 47 #[.agg #[.int .i64 ln,.int .i64 co],.int .i64 e] w (λ_ _=>False) (PanE 48 (λ_=>False) (λer=>er=(ln,co,e)) w f):=by
 exact Nl (X:=X0 w f) (H:=[]) (R:=[]) (B:=[]) (Fs:=[]) (f:=f) func47 rfl rfl rfl (C8 hv tQ tQ)<|go Fb 9 [0] (λb1=>y<|λ_=>EU rfl rfl (λw f hM=>BZ rfl qK)<|uY rfl (λw=>BN rfl) (λw f hM=>⟨rfl,(ln,co,e),f,rfl,rfl,hM.exm⟩))
theorem Cy(w:World)(f:Fq)(hv:Vl w f)(b:Bool)(ln co:Int) :
  BS prog 16 #[.bool b,.agg #[.int .i64 ln,.int .i64 co]] w (BW (α:=Unit) (λ_=>.tuple #[]) (λ_=>b=true) (λ_=>[]) w f) (PanE 48 (λ_=>False) (λer=>b=false∧er=(ln,co,11)) w f):=by
 refine Nl (X:=X0 w f) (H:=[]) (R:=[]) (B:=[]) (Fs:=[]) (f:=f) func16 rfl rfl rfl (C8 hv tQ tQ)<|go Fb 11 [] (λb1=>λ_=>Ba 5 rfl rfl (λh1=>?_) (λh1=>?_));replace h1:=Gg h1;exact go Fb 3 [0] (y<|λ_=>O3 rfl rfl (eC Qf rfl rfl) (λ_ h=>h.elim) (λw f hM=>Ki w f hM.vl ln co 11) (λer w2 f2 he hE=>by subst he;exact⟨rfl,_,f2,rfl,⟨h1,rfl⟩,hE⟩));replace h1:=Gs h1;exact go Fb 2 [] (λ_=>cL (λw f hM=>Ea rfl) (λw f hM=>⟨(),f,rfl,h1,hM.exm,tQ⟩))
theorem YN(w:World)(f:Fq)(hv:Vl w f)(A:Ad)(hA:A.ok)(s:CS)(hC:Au 65 130 A s w f)(hf:∀b,BE A b→f b=0)(hw:DZ s)(t u:T1)(a:Option Addr)(c:Nat)(a2:Option Addr)(c2:Nat)(hbt:t.bnd)(hbu:u.bnd)(hT:Ah w f t.kids a c)(hU:Ah w f u.kids a2 c2)(ln co:Int) :
  BS prog 18 #[.pointer (some ⟨A.cb,0,none⟩),tV t a c,tV u a2 c2,.agg #[.int .i64 ln,.int .i64 co]] w (Fv (α:=BX) (λ_=>.tuple #[]) (λx=>FJ s t u ln co=.ok {s with sol:=x}∧DZ {s with sol:=x}) (BE A) (λx=>Au 65 130 A {s with sol:=x}) (λ_=>[]) w f) (PanE 48 (BE A) (λer=>FJ s t u ln co=.error er) w f):=by
 refine Nl (X:=XC 65 130 A s w f) (H:=[]) (R:=[]) (B:=[]) (Fs:=[λw f=>Ah w f t.kids a c,λw f=>Ah w f u.kids a2 c2]) (f:=f) func18 rfl rfl rfl (Lt hv hC hf ⟨hT,hU,tQ⟩ ⟨Ah.mono,Ah.mono,tQ⟩)<|go Fb 8 [] (λb1=>λb2=>λb3=>λ_=>Mx (λw=>AT w A.cb [.pointer (some ⟨A.sb,0,none⟩),.map (some A.km),.map (some A.dm),.map (some A.rm),.int .i64 s.vars] 65) (λw f h _=>h.blk) [0,1,2] Ap (rd [0,1,2,3,4,5] (.br 6 (.rd 7 .fin) .fin)) rfl kR kR kR (λ_ _ _ _ _ h=>h)<|AA Fb 3 [] (λ_=>Ik rfl rfl rfl (λw hK=>Al rfl HU hK.2.2 rfl)<|AA Fb 2 [2,1] (y<|y<|λ_=>Ag rfl ?_ Aj)));refine aM λpr=>OM (α:=Int×BX×Int) (val:=λx=>.int .i64 x.1) (q:=λx=>(∀b,FT s.sol t u=.ok b→x.1=0∧x.2.1=b∧J3 b)∧∀e,FT s.sol t u=.error e→x.1=e∧e≠0) (I':=λx=>Au 65 130 A {s with sol:=x.2.1}) (F':=λ_=>[]) (XX:=λ_ _=>False) rfl rfl (eC hZ rfl rfl) (λw f hM=>((TA w f hM.vl A.sb A.mb s.sol s.fresh pr hM.res.2 ⟨(hM.mi _ (.inr (.inl rfl))).2.1,(hM.mi _ (.inr (.inr (.inl rfl)))).2.1⟩ hA.sm.1 hw.sol t u a c a2 c2 hbt hbu hM.f0 hM.f1).mono λv w2 ⟨x,f2,h1,h2,h3,h4,h5⟩=>⟨x,f2,h1,h2,h3.mono MJ.c,hM.res.1.solved hA hM.vl (λb hb=>(hM.mi b (MJ.c b hb)).2.1) h3 h4,h5⟩).retP) (λ_=>Au.stab) (λ_=>trivial) (λ_ _ _ _ _ h=>h.elim) ?_;rintro⟨cd,s3,pr3⟩ ⟨hok,herr⟩;refine go Fb 1 [] (λ_=>Bj [0,1,2] (λw f h _=>h.blk) rfl (λ_ h=>h)<|AA Fb 1 [] (λ_=>B4<|go Fb 7 [] (λ_=>Ba 17 rfl rfl (λh1=>?_) (λh1=>?_))));refine go Fb 4 [0] (y<|λ_=>?_);obtain⟨er,her⟩:∃e,FT s.sol t u=.error e:=by cases hx:FT s.sol t u with|error e=>exact⟨e,rfl⟩|ok z=>have g9:=(hok z hx).1;rw[g9] at h1;cases h1
 obtain⟨rfl,-⟩:=herr er her;exact O3 rfl rfl (eC Qf rfl rfl) (λ_ h=>h.elim) (λw f hM=>Ki w f hM.vl ln co cd) (λer w2 f2 he hE=>by subst he;exact⟨rfl,_,f2,rfl,(by rw[FJ,her]),hE⟩);refine go Fb 2 [] (λ_=>?_);obtain⟨z,hz⟩:∃z,FT s.sol t u=.ok z:=by cases hx:FT s.sol t u with|ok z=>exact⟨z,rfl⟩|error e=>have g9:=herr e hx;have g8:cd=0:=(by simpa using h1);exact absurd (g9.1.symm.trans g8) g9.2
 obtain⟨-,rfl,hz3⟩:=hok z hz;exact cL (λw f hM=>Ea rfl) (λw f hM=>⟨s3,f,rfl,⟨(by rw[FJ,hz]),{hw with sol:=hz3}⟩,hM.exm,hM.res,tQ⟩)
theorem Cz(w:World)(f:Fq)(hv:Vl w f)(A:Ad)(hA:A.ok)(s:CS)(hC:Au 65 130 A s w f)(hf:∀b,BE A b→f b=0)(hw:DZ s)(t:T1)(a:Option Addr)(c:Nat)(hb:t.bnd)(hT:Ah w f t.kids a c)(ln co:Int) :
  BS prog 25 #[.pointer (some ⟨A.cb,0,none⟩),tV t a c,.agg #[.int .i64 ln,.int .i64 co]] w (Fv (α:=T1×Option Addr×Nat) (λx=>tV x.1 x.2.1 x.2.2) (λx=>Fh s t ln co=.ok x.1∧x.1.bnd∧x.1.kids.size+1≤1000) (BE A) (λ_=>Au 65 130 A s) (λx=>[λw f=>Ah w f x.1.kids x.2.1 x.2.2]) w f) (PanE 48 (BE A) (λer=>Fh s t ln co=.error er) w f):=by
 refine Nl (X:=XC 65 130 A s w f) (H:=[]) (R:=[]) (B:=[]) (Fs:=[λw f=>Ah w f t.kids a c]) (f:=f) func25 rfl rfl rfl (Lt hv hC hf ⟨hT,tQ⟩ ⟨Ah.mono,tQ⟩)<|go Fb 8 [] (λb1=>λb2=>λb3=>λ_=>Mx (λw=>AT w A.cb [.pointer (some ⟨A.sb,0,none⟩),.map (some A.km),.map (some A.dm),.map (some A.rm),.int .i64 s.vars] 65) (λw f h _=>h.blk) [0,1,2] Ap (rd [0,1,2,3,4] (.br 5 (rd [6,7,8] (.br 9 (.br 10 (.rd 11 .fin) .fin) .fin)) (.br 9 (.br 5 (rd [6,7,8] (.br 10 (.rd 11 .fin) .fin)) .fin) .fin))) rfl kR kR kR (λ_ _ _ _ _ h=>h)<|AA Fb 3 [] (λ_=>Ik rfl rfl rfl (λw hK=>Al rfl HU hK.2.2 rfl)<|AA Fb 1 [2] (y<|λ_=>Ag rfl ?_ ?_)));refine aM λpr=>BA (α:=Option Addr×Nat) rfl rfl (eC QF rfl rfl) (λw f hM=>K1 w f hM.vl A.sb A.mb s.sol s.fresh pr hM.res.2 hw.sol t a c hb hM.f0) (λ_=>⟨Ah.mono,tQ⟩) ?_;rintro⟨a2,c2⟩ -;refine go Fb 1 [] (λ_=>Bj [0,1,2] (λw f h _=>h.1.blk) rfl (λ_ h=>h)<|AA Fb 3 [] (λ_=>Ag rfl ?_ Aj));refine go Fb 2 [] (λb4=>λ_=>Bj [1,2,3] (λw f h _=>h.1.blk) rfl (λ_ h=>h)<|Ag rfl ?_ Aj);refine go Fb 2 [0] (y<|λ_=>Bj [1,2,3] (λw f h _=>h.1.blk) rfl (λ_ h=>h)<|AA Fb 1 [] (λ_=>B4<|go Fb 8 [] (λ_=>Ba 19 rfl rfl (λh1=>?_) (λh1=>?_))));refine go Fb 4 [2] (y<|λ_=>?_);have hfn:CL s.sol t=none:=by cases hx:CL s.sol t with|none=>rfl|some z=>rw[hx] at h1;cases h1
 rw[hfn];exact O3 rfl rfl (eC Qf rfl rfl) (λ_ h=>h.elim) (λw f hM=>Ki w f hM.vl ln co 4) (λer w2 f2 he hE=>by subst he;exact⟨rfl,_,f2,rfl,(by rw[Fh,hfn]),hE⟩);refine go Fb 10 [0,1] (y<|y<|λ_=>?_);obtain⟨z,hz⟩:∃z,CL s.sol t=some z:=by cases hx:CL s.sol t with|some z=>exact⟨z,rfl⟩|none=>rw[hx] at h1;cases h1
 exact Bc (λw f hM=>AJ rfl (Ac rfl AI hM.k1 rfl)) (λw f hM=>⟨(z,a2,c2),f,(by rw[hz];rfl),⟨(by rw[Fh,hz]),Kv hw.sol hb hz,IX hz⟩,hM.exm,hM.res.1,⟨by have h9:=hM.f0;rw[hz] at h9;exact h9,tQ⟩⟩);refine Ag rfl ?_ Aj;refine go Fb 2 [] (λb5=>λ_=>Bj [1,2,3] (λw f h _=>h.blk) rfl (λ_ h=>h)<|Ag rfl ?_ Aj);refine aM λpr=>BA (α:=Option Addr×Nat) rfl rfl (eC QF rfl rfl) (λw f hM=>K1 w f hM.vl A.sb A.mb s.sol s.fresh pr hM.res.2 hw.sol t a c hb hM.f0) (λ_=>⟨Ah.mono,tQ⟩) ?_;rintro⟨a2,c2⟩ -;refine go Fb 1 [] (λ_=>Bj [1,2,3] (λw f h _=>h.1.blk) rfl (λ_ h=>h)<|AA Fb 3 [] (λ_=>Ag rfl ?_ Aj));refine go Fb 2 [0] (y<|λ_=>Bj [1,2,3] (λw f h _=>h.1.blk) rfl (λ_ h=>h)<|AA Fb 1 [] (λ_=>B4<|go Fb 8 [] (λ_=>Ba 19 rfl rfl (λh2=>?_) (λh2=>?_))));refine go Fb 4 [2] (y<|λ_=>?_);have hfn:CL s.sol t=none:=by cases hx:CL s.sol t with|none=>rfl|some z=>rw[hx] at h2;cases h2
 rw[hfn];exact O3 rfl rfl (eC Qf rfl rfl) (λ_ h=>h.elim) (λw f hM=>Ki w f hM.vl ln co 4) (λer w2 f2 he hE=>by subst he;exact⟨rfl,_,f2,rfl,(by rw[Fh,hfn]),hE⟩);refine go Fb 10 [0,1] (y<|y<|λ_=>?_);obtain⟨z,hz⟩:∃z,CL s.sol t=some z:=by cases hx:CL s.sol t with|some z=>exact⟨z,rfl⟩|none=>rw[hx] at h2;cases h2
 exact Bc (λw f hM=>AJ rfl (Ac rfl AI hM.k1 rfl)) (λw f hM=>⟨(z,a2,c2),f,(by rw[hz];rfl),⟨(by rw[Fh,hz]),Kv hw.sol hb hz,IX hz⟩,hM.exm,hM.res.1,⟨by have h9:=hM.f0;rw[hz] at h9;exact h9,tQ⟩⟩)
def GP:Eh:=⟨[(65,0,0)],[(22,3,1),(53,57,4)],[],[],[(60,false,1)],[(57,[.int .i64 0,.int .i64 0,.string ⟨#[]⟩,.slice none 0 0])],[],[]⟩
theorem PH:GP.Ok prog:=⟨(And.intro Ky tQ),(And.intro KD (And.intro DT tQ)),tQ,tQ,(And.intro HU tQ),(And.intro DN tQ),tQ,tQ⟩
theorem LX(w:World)(f:Fq)(hv:Vl w f)(A:Ad)(hA:A.ok)(s:CS)(hC:Au 65 130 A s w f)(hf:∀b,BE A b→f b=0)(hw:DZ s)(l:List Int)(la:Option Addr)(lc:Nat)(hl:l.length≤200000)(hfb:s.fresh+l.length≤900000000000) :
  BC prog 101 #[.pointer (some ⟨A.cb,0,none⟩),.slice la l.length lc] w (Fv (α:=Option Addr×Nat) (λx=>.slice x.1 (B2 l s).1.len x.2) (λ_=>True) (BE A) (λ_=>Au 65 130 A (B2 l s).2) (λx=>[λw f=>Ah w f (B2 l s).1 x.1 x.2]) w f):=by
 have hfr0:=hw.fr;refine Dl (X:=XC 65 130 A s w f) (H:=[]) (R:=[]) (B:=[]) (Fs:=[]) (f:=f) func101 rfl rfl rfl (Lt hv hC hf tQ tQ)<|go PH 19 [] (λ_=>Rd 57 4 ?_);refine HK (α:=Nat×List Value×Option Addr×Nat) (λx=>l.length-x.1) (λx=>x.1≤l.length) (λx=>(E4 0 (.pointer (some ⟨A.cb,0,none⟩)) 5 (.slice x.2.2.1 x.1 x.2.2.2) 7 (.int .i64 (l.length:Int)) 8 (.int .i64 (x.1:Int)))) (λx=>⟨BE A,BE A,Au 65 130 A {s with fresh:=s.fresh+(x.1:Nat)},w,f⟩) (λx=>[]) (λx=>[⟨57,4,x.2.2.1,x.2.2.2,x.1,x.2.1⟩]) (λx=>[]) (λx=>[λw f=>Bo w f (EI s.fresh x.1) x.2.1]) (0,[],none,0) (Nat.zero_le _) lE (λw f hM=>(by have hM2:=hM.more (B':=[]) (F':=[λw f=>Bo w f (EI s.fresh 0) []]) nE (A2.mem ⟨rfl,tQ⟩) (Af.mem ⟨Bo.mono,tQ⟩);rw[show s={s with fresh:=s.fresh+(0:Nat)} by simp] at hM2;exact hM2)) ?_;rintro⟨i,xs,ra,rc⟩ hi;dsimp only at hi ⊢;refine go PH 6 [] (λ_=>Ba 9 rfl rfl (λh1=>?_) (λh1=>?_));refine go PH 5 [] (λ_=>?_);have hil:i<l.length:=by have:=of_decide_eq_true h1;omega
 refine go PH 5 [] (λ_=>EU rfl rfl (λw f hM=>Al rfl HU hM.res.blk rfl)<|aM λpr=>OM (α:=Unit) (val:=λ_=>tV (.var (({s with fresh:=s.fresh+(i:Nat)}:CS).fresh+1)) none 0) (q:=λ_=>True) (I':=λ_=>Au 65 130 A { ({s with fresh:=s.fresh+(i:Nat)}:CS) with fresh:=({s with fresh:=s.fresh+(i:Nat)}:CS).fresh+1}) (F':=λ_=>[]) (XX:=λ_ _=>False) rfl rfl (eC Lg rfl rfl) (λw f hM=>((NN w f hM.vl A.sb A.mb _ _ pr hM.res.2 ⟨(hM.mi _ (.inr (.inl rfl))).2.1,(hM.mi _ (.inr (.inr (.inl rfl)))).2.1⟩ hA.sm.1 (by constructor <;> (simp only;omega))).mono λv w2 ⟨x,f2,h1,h2,h3,h4,h5⟩=>⟨x,f2,h1,h2,h3.mono MJ.c,hM.res.1.solved hA hM.vl (λb hb=>(hM.mi b (MJ.c b hb)).2.1) h3 h4,h5⟩).retP) (λ_=>Au.stab) (λ_=>trivial) (λ_ _ _ _ _ h=>h.elim) ?_);rintro⟨⟩ -;exact go PH 1 [] (λb1=>λ_=>DR 0 0 rfl rfl Dt rfl rfl rfl rfl rfl rfl rfl rfl (λ_ _=>rfl) oM oM λra2 rc2=>go PH 8 [] (And.intro ⟨oM,oM⟩<|λ_=>DM ((i+1,xs++tC (.var (s.fresh+i+1)) none 0,ra2,rc2)) (show l.length-(i+1)<l.length-i by omega) (show i+1≤l.length by omega) lE (λw f hM=>⟨_,by have hM2:=(hM.more (B':=[]) (F':=[λw f=>Bo w f (EI s.fresh (i+1)) (xs++tC (.var (s.fresh+i+1)) none 0)]) nE (A2.mem ⟨by rw[Mz];exact Bo.snoc (Ah.nil _ _ _ _) hM.f0,tQ⟩) (Af.mem ⟨Bo.mono,tQ⟩)).less (H':=[]) (List.nil_sublist _) sR (B':=[]) nE (F':=[λw f=>Bo w f (EI s.fresh (i+1)) (xs++tC (.var (s.fresh+i+1)) none 0)]) (mR [0]);rw[show s.fresh+(i:Int)+1=s.fresh+((i+1:Nat):Int) by omega] at hM2 ⊢;exact hM2⟩)));refine go PH 3 [] (λ_=>GR<|go PH 3 [] (λ_=>?_));obtain rfl:i=l.length:=by have:=of_decide_eq_false h1;omega
 refine go PH 6 [] (λ_=>?_);have hnl:(B2 l s).1.len=l.length:=by rw[BU];exact Gc _ _
 rcases Nat.eq_zero_or_pos l.length with h0|h0
 · exact Bc (DI rfl rfl) (λw f hM=>⟨(ra,rc),f,(by rw[hnl]),tQ,hM.exm,(by rw[BU];exact hM.res),⟨by rw[BU];show Ah _ _ (EI s.fresh l.length) _ _;rw[h0];exact Ah.nil _ _ _ _,tQ⟩⟩)
 · exact Bc (DI rfl rfl) (λw f hM=>let ⟨f2,hM2,hF⟩:=Ou hM hM.f0 (by rw[Gc];exact h0);⟨(ra,rc),f2,(by rw[hnl]),tQ,hM2.exm,(by rw[BU];exact hM2.res),⟨by rw[BU];exact hF,tQ⟩⟩)
def wY:Eh:=⟨[(65,1,1),(55,2,3),(55,1,1),(92,0,0),(55,4,5),(92,2,5),(92,1,1)],[(53,57,4),(34,55,6)],[],[],[(9,false,1),(92,true,6),(26,true,2),(53,false,1),(34,false,1),(22,false,1),(57,true,4)],[(57,[.int .i64 0,.int .i64 0,.string ⟨#[]⟩,.slice none 0 0]),(92,[.slice none 0 0,.int .i64 0,.int .i64 0,.string ⟨#[]⟩,.slice none 0 0,.slice none 0 0])],[],[]⟩
theorem Gu:wY.Ok prog:=⟨(And.intro PG (And.intro GW (And.intro GS (And.intro PS (And.intro Gi (And.intro dM (And.intro aU tQ))))))),(And.intro DT (And.intro FF tQ)),tQ,tQ,(And.intro GX (And.intro ZV (And.intro Db (And.intro Hs (And.intro EK (And.intro KE (And.intro AI tQ))))))),(And.intro DN (And.intro ZQ tQ)),tQ,tQ⟩
theorem OU(w:World)(f:Fq)(hv:Vl w f)(A:Ad)(hA:A.ok)(s:CS)(hC:Au 65 130 A s w f)(hf:∀b,BE A b→f b=0)(hw:DZ s)(op ln co nm:Int)(tx:lU)(kids:Nd)(na:Option Addr)(nc:Nat)(hfb:s.fresh≤800000000000) :
  BS prog 74 #[.pointer (some ⟨A.cb,0,none⟩),.agg #[.int .i64 op,.int .i64 ln,.int .i64 co,S tx,.int .i64 nm,.slice na kids.len nc]] w (Fv (α:=(Ty×Option Addr×Nat)×(T1×Option Addr×Nat)×CS) (λx=>.tuple #[.slice x.1.2.1 x.1.1.len x.1.2.2,tV x.2.1.1 x.2.1.2.1 x.2.1.2.2]) (λx=>KG s tx kids.len ln co=.ok (x.1.1,x.2.1.1,x.2.2)∧x.1.1.len=kids.len∧x.1.1.bnd∧x.2.1.1.bnd∧DZ x.2.2∧x.2.2.fresh≤s.fresh+200000) (BE A) (λx=>Au 65 130 A x.2.2) (λx=>[λw f=>Ah w f x.1.1 x.1.2.1 x.1.2.2,λw f=>Ah w f x.2.1.1.kids x.2.1.2.1 x.2.1.2.2]) w f) (PanE 48 (BE A) (λer=>KG s tx kids.len ln co=.error er) w f):=by
 refine Nl (X:=XC 65 130 A s w f) (H:=[]) (R:=[]) (B:=[]) (Fs:=[]) (f:=f) func74 rfl rfl rfl (Lt hv hC hf tQ tQ)<|go Gu 8 [] (λb1=>λb2=>λ_=>vT λes=>KA (λw f hM=>Ci.dis hM.res.2.2 hw.dc) λhdis=>?_)
 cases hl:Cd s.cons tx with
 |none =>
  refine KA (λw f hM=>(Ci.look hM.res.2.2).1 hl) λhlk=>Mx (λw=>AT w A.cb [.pointer (some ⟨A.sb,0,none⟩),.map (some A.km),.map (some A.dm),.map (some A.rm),.int .i64 s.vars] 65∧Cm CG w A.km es) (λw f h _=>⟨h.1.blk,h.2.1⟩) [0,1] Ap (rd [0,1,2,3,4,5,6,7,8,9] (.br 10 (.br 11 (.rd 12 .fin) .fin) .fin)) rfl kR kR kR (λ_ _ _ _ _ h=>h)<|AA Gu 3 [] (λ_=>Ik rfl rfl rfl (λw hK=>Al rfl Po hK.2.2.1 rfl)<|AA Gu 2 [1] (y<|λ_=>Ik rfl rfl rfl (λw hK=>Li (K:=CG) (a:=tx) rfl rfl Pt Ii VS hK.2.2.2 hdis hlk)<|AA Gu 3 [] (λ_=>Ag rfl ?_ Aj)));refine go Gu 2 [] (λb3=>λ_=>Bj [1,2] (λw f h _=>⟨h.1.blk,h.2.1⟩) rfl (λ_ h=>h)<|Ag rfl ?_ Aj);exact go Gu 2 [0] (y<|λ_=>Bj [1,2] (λw f h _=>⟨h.1.blk,h.2.1⟩) rfl (λ_ h=>h)<|AA Gu 1 [] (λ_=>B4<|go Gu 15 [2] (y<|λ_=>O3 rfl rfl (eC EZ rfl rfl) (λ_ h=>h.elim) (λw f hM=>(Cy w f hM.vl false ln co).mono (λ_ _ ⟨_,_,_,h,_⟩=>by cases h) λ_ _ h=>h) (λer w2 f2 he hE=>⟨rfl,er,f2,rfl,(by rw[KG,hl,he.2]),hE⟩))))
 |some m =>
  refine C6 (α:=Option Addr×Nat×Option Addr×Nat×Option Addr×Nat) (λx=>FL es tx=some (.agg (aQ m x.1 x.2.1 x.2.2.1 x.2.2.2.1 x.2.2.2.2.1 x.2.2.2.2.2).toArray)) (λx=>[]) (λx=>[λw f=>Ah w f m.args x.1 x.2.1,λw f=>Ah w f m.out.kids x.2.2.1 x.2.2.2.1,λw f=>B7 w f m.vars x.2.2.2.2.1 x.2.2.2.2.2]) (λw f hM=>let ⟨aa,ac,oa,oc,va,vc,h1,h2,h3,h4⟩:=(Ci.look hM.res.2.2).2 m hl;⟨(aa,ac,oa,oc,va,vc),h1,nE,A2.mem ⟨h2,h3,h4,tQ⟩⟩) (λx=>Af.mem ⟨Ah.mono,Ah.mono,B7.mono,tQ⟩) ?_;rintro⟨aa,ac,oa,oc,va,vc⟩ hlk;obtain⟨hm1,hm2,hm3,hm4⟩:=hw.cons tx m hl;refine Mx (λw=>AT w A.cb [.pointer (some ⟨A.sb,0,none⟩),.map (some A.km),.map (some A.dm),.map (some A.rm),.int .i64 s.vars] 65∧Cm CG w A.km es) (λw f h _=>⟨h.1.blk,h.2.1⟩) [0,1] Ap (rd [0,1,2,3,4,5,6,7,8,9] (.br 10 (.br 11 (.rd 12 .fin) .fin) .fin)) rfl kR kR kR (λ_ _ _ _ _ h=>h)<|AA Gu 3 [] (λ_=>Ik rfl rfl rfl (λw hK=>Al rfl Po hK.2.2.1 rfl)<|AA Gu 2 [1] (y<|λ_=>Ik rfl rfl rfl (λw hK=>KQ (K:=CG) (a:=tx) rfl rfl Pt Ii VS hK.2.2.2 hdis hlk)<|AA Gu 3 [] (λ_=>Ag rfl ?_ Aj)));refine go Gu 2 [] (λb4=>λ_=>Bj [1,2] (λw f h _=>⟨h.1.blk,h.2.1⟩) rfl (λ_ h=>h)<|Ag rfl ?_ Aj);refine go Gu 2 [0] (y<|λ_=>Bj [1,2] (λw f h _=>⟨h.1.blk,h.2.1⟩) rfl (λ_ h=>h)<|AA Gu 1 [] (λ_=>B4<|go Gu 15 [0,2,2] (y<|y<|y<|λ_=>Eg (α:=Unit) (val:=λ_=>.tuple #[]) (q:=λ_=>((m.args.len:Int)==kids.len)=true) (I':=λ_=>Au 65 130 A s) (F':=λ_=>[]) rfl rfl (eC EZ rfl rfl) (λ_ h=>h.elim) (λw f hM=>(Cy w f hM.vl ((m.args.len:Int)==kids.len) ln co).mono (λ_ _ ⟨x,f2,h1,h2,h3,h4⟩=>⟨x,f2,h1,h2,h3.mono (λ_ h=>h.elim),(hM.call0 h3).res.1,h4⟩) λ_ _ h=>h) (λ_=>Au.stab) (λ_=>trivial) (λer w2 f2 he hE=>⟨rfl,er,f2,rfl,(by rw[KG,hl];simp only;rw[if_neg (by rw[he.1];decide),he.2]),hE⟩) ?_)));rintro⟨⟩ hle;have hlen:m.args.len=kids.len:=by have:=beq_iff_eq.1 hle;omega
  refine go Gu 7 [0] (y<|λ_=>OM (XX:=λ_ _=>False) rfl rfl (eC QG rfl rfl) (λw f hM=>(LX w f hM.vl A hA s hM.res hM.mz hw m.vars va vc hm4 oM).retP) (λ_=>Au.stab) (λ_=>⟨Ah.mono,tQ⟩) (λ_ _ _ _ _ h=>h.elim) ?_);rintro⟨na2,nc2⟩ -;have hnl:(B2 m.vars s).1.len=m.vars.length:=by rw[BU];exact Gc _ _
  have hnb:(B2 m.vars s).1.bnd:=by rw[BU];exact IV _ _
  refine go Gu 18 [0] (y<|λ_=>Rd 57 4 ?_);refine HK (α:=Nat×Ty×Ty×List Value×Option Addr×Nat) (λx=>x.2.1.len) (λx=>x.1+x.2.1.len=m.args.len∧x.2.2.1.len=x.1∧DX m.vars (B2 m.vars s).1 m.args=x.2.2.1.app (DX m.vars (B2 m.vars s).1 x.2.1)∧x.2.1.bnd) (λx=>(E9 0 (.pointer (some ⟨A.cb,0,none⟩)) 3 (.pointer (some ⟨b1,0,none⟩)) 5 (.pointer (some ⟨b2,0,none⟩)) 6 (.pointer (some ⟨b4,0,none⟩)) 8 (.slice na2 (B2 m.vars s).1.len nc2) 9 (.slice x.2.2.2.2.1 x.1 x.2.2.2.2.2) 40 (.slice aa m.args.len ac) 41 (.int .i64 (m.args.len:Int)) 42 (.int .i64 (x.1:Int)))) (λx=>⟨BE A,BE A,Au 65 130 A (B2 m.vars s).2,w,f⟩) (λx=>[⟨b4,aQ m aa ac oa oc va vc,92,true⟩,⟨b2,[.int .i64 0,.int .i64 0,.string ⟨#[]⟩,.slice none 0 0],57,true⟩,⟨b1,[.int .i64 op,.int .i64 ln,.int .i64 co,S tx,.int .i64 nm,.slice na kids.len nc],55,true⟩]) (λx=>[⟨57,4,x.2.2.2.2.1,x.2.2.2.2.2,x.1,x.2.2.2.1⟩]) (λx=>[]) (λx=>[λw f=>AZ w f aa x.1 x.2.1,λw f=>Bo w f x.2.2.1 x.2.2.2.1,λw f=>B7 w f m.vars va vc,λw f=>Ah w f (B2 m.vars s).1 na2 nc2,λw f=>Ah w f m.out.kids oa oc]) (0,m.args,.nil,[],none,0) ⟨by simp,rfl,rfl,hm2⟩ lE (λw f hM=>hM.more (B':=[]) (F':=[λw f=>AZ w f aa 0 m.args,λw f=>Bo w f .nil []]) nE (A2.mem ⟨Ah.at hM.f1,rfl,tQ⟩) (Af.mem ⟨AZ.mono,Bo.mono,tQ⟩) |>.less sR sR nE (mR [0,1,5,2,4])) ?_;rintro⟨i,r,dn,xs,ra,rc⟩ ⟨hi,hdl,hk,hrb⟩;dsimp only at hi hdl hk hrb ⊢;refine go Gu 6 [] (λ_=>Ba 43 rfl rfl (λh1=>?_) (λh1=>?_));refine go Gu 6 [] (λ_=>?_);have hil:i<m.args.len:=by have:=of_decide_eq_true h1;omega
  obtain⟨t2,r,rfl⟩:=Ty.cases1 r oM;rw[T1.len_cons] at hi;refine C6 (α:=Nat×Nat×Option Addr×Nat) (λx=>aa=some ⟨x.1,x.2.1,none⟩) (λx=>[⟨x.1,x.2.1+i*4,tC t2 x.2.2.1 x.2.2.2⟩]) (λx=>[λw f=>Ah w f t2.kids x.2.2.1 x.2.2.2,λw f=>AZ w f aa (i+1) r]) (λw f hM=>let ⟨b,off,ka,kc,h1,h2,h3,h4⟩:=AZ.head hM.f0;⟨(b,off,ka,kc),h1,(oE h2),A2.mem ⟨h3,h4,tQ⟩⟩) (λx=>Af.mem ⟨Ah.mono,AZ.mono,tQ⟩) ?_;rintro⟨eb,eo,ka,kc⟩ rfl;refine go Gu 13 [100,0,0,0,1] (And.intro oM<|y2<|λb5=>y<|y<|y<|λ_=>BA rfl rfl (eC DD rfl rfl) (λw f hM=>BJ w f hM.vl m.vars va vc (B2 m.vars s).1 na2 nc2 oM oM hnb hM.f4 hM.f5 t2 ka kc (T1.bnd_cons.1 hrb).1 hM.f0) (λx=>⟨Ah.mono,tQ⟩) ?_);rintro⟨a2,c2⟩ -;exact go Gu 1 [] (λb6=>λ_=>DR 0 0 rfl rfl Dt rfl rfl rfl rfl rfl rfl rfl rfl (λ_ _=>rfl) oM oM λra2 rc2=>go Gu 8 [] (And.intro ⟨oM,oM⟩<|λ_=>DM ((i+1,r,dn.snoc (C2 t2 m.vars (B2 m.vars s).1),xs++tC (C2 t2 m.vars (B2 m.vars s).1) a2 c2,ra2,rc2)) (show r.len<(t2.cons r).len by rw[T1.len_cons];omega) ⟨show i+1+r.len=_ by omega,show (dn.snoc _).len=i+1 by rw[Ty.len_snoc,hdl],show DX m.vars (B2 m.vars s).1 m.args=(dn.snoc _).app (DX m.vars (B2 m.vars s).1 r) by rw[hk,Pj,Ty.snoc_app],(T1.bnd_cons.1 hrb).2⟩ lE (λw f hM=>⟨_,(hM.more (B':=[]) (F':=[λw f=>Bo w f (dn.snoc (C2 t2 m.vars (B2 m.vars s).1)) (xs++tC (C2 t2 m.vars (B2 m.vars s).1) a2 c2)]) nE (A2.mem ⟨Bo.snoc hM.f0 hM.f4,tQ⟩) (Af.mem ⟨Bo.mono,tQ⟩)).less (.cons _ (.cons _ sR)) sR nE (mR [3,0,6,7,8])⟩)));refine go Gu 3 [] (λ_=>GR<|go Gu 3 [] (λ_=>?_));obtain rfl:r=.nil:=Ty.len0 (by have:=of_decide_eq_false h1;omega);rw[show DX m.vars (B2 m.vars s).1 .nil=.nil from rfl,Ty.app_nil] at hk;refine go Gu 7 [0,0] (y<|y<|λ_=>BA rfl rfl (eC DD rfl rfl) (λw f hM=>BJ w f hM.vl m.vars va vc (B2 m.vars s).1 na2 nc2 oM oM hnb hM.f2 hM.f3 m.out oa oc hm3 hM.f4) (λx=>⟨Ah.mono,tQ⟩) ?_);rintro⟨a3,c3⟩ -;refine go Gu 5 [1] (y<|λ_=>?_);have hmk:KG s tx kids.len ln co=.ok (dn,C2 m.out m.vars (B2 m.vars s).1,(B2 m.vars s).2):=by rw[KG,hl];simp only;rw[if_pos hle,hk]
  have hdb:dn.bnd:=by rw[← hk];exact (It hnb _ hm2).1
  have hdk:dn.len=kids.len:=by have:i+0=m.args.len:=hi;omega
  rcases Nat.eq_zero_or_pos dn.len with h0|h0
  · exact Bc (λw f hM=>Cu rfl (Ak rfl) (Ac rfl AI hM.k1 rfl)) (λw f hM=>⟨((dn,ra,rc),(C2 m.out m.vars (B2 m.vars s).1,a3,c3),(B2 m.vars s).2),f,(by dsimp only;rw[hdl]),⟨hmk,hdk,hdb,JX hnb hm3,(by rw[BU];exact hw.fresh (by have:=hw.fr;omega)),(by rw[BU];show s.fresh+_≤_;omega)⟩,hM.exm,hM.res,⟨by obtain rfl:=Ty.len0 h0;exact Ah.nil _ _ _ _,hM.f0,tQ⟩⟩)
  · exact Bc (λw f hM=>Cu rfl (Ak rfl) (Ac rfl AI hM.k1 rfl)) (λw f hM=>let ⟨f2,hM2,hF⟩:=Ou hM hM.f2 h0;⟨((dn,ra,rc),(C2 m.out m.vars (B2 m.vars s).1,a3,c3),(B2 m.vars s).2),f2,(by dsimp only;rw[hdl]),⟨hmk,hdk,hdb,JX hnb hm3,(by rw[BU];exact hw.fresh (by have:=hw.fr;omega)),(by rw[BU];show s.fresh+_≤_;omega)⟩,hM2.exm,hM2.res,⟨hF,hM2.fact (i:=0) rfl,tQ⟩⟩)
def aL:Eh:=⟨[(55,1,1),(102,0,0),(55,2,3),(102,2,6),(102,1,1),(100,0,0),(100,1,4)],[(22,3,1)],[],[],[(26,true,2),(9,false,1),(50,false,1),(57,true,4),(3,false,1),(22,false,1)],[(57,[.int .i64 0,.int .i64 0,.string ⟨#[]⟩,.slice none 0 0]),(3,[.int .i64 0])],[],[(50,102)]⟩
theorem CH:aL.Ok prog:=⟨(And.intro GS (And.intro XR (And.intro GW (And.intro SZ (And.intro SO (And.intro Ot (And.intro OA tQ))))))),(And.intro KD tQ),tQ,tQ,(And.intro Db (And.intro GX (And.intro gB (And.intro AI (And.intro Dd (And.intro KE tQ)))))),(And.intro DN (And.intro WL tQ)),tQ,(And.intro gK tQ)⟩
theorem Xn(w:World)(f:Fq)(hv:Vl w f)(A:Ad)(hA:A.ok)(s:CS)(hC:Au 65 130 A s w f)(hf:∀b,BE A b→f b=0)(hw:DZ s)(op ln co nm:Int)(tx:lU)(kids:Nd)(na:Option Addr)(nc:Nat)(e:Bt)(ea:Option Addr)(heB:Gt e)(hE:AQ w f e ea)(hfb:s.fresh≤800000000000) :
  BS prog 73 #[.pointer (some ⟨A.cb,0,none⟩),.agg #[.int .i64 op,.int .i64 ln,.int .i64 co,S tx,.int .i64 nm,.slice na kids.len nc],.pointer ea] w (Fv (α:=(T1×Option Addr×Nat)×CS) (λx=>tV x.1.1 x.1.2.1 x.1.2.2) (λx=>G3 s e tx ln co=.ok (x.1.1,x.2)∧x.1.1.bnd∧DZ x.2∧x.2.fresh≤s.fresh+200000) (BE A) (λx=>Au 65 130 A x.2) (λx=>[λw f=>Ah w f x.1.1.kids x.1.2.1 x.1.2.2]) w f) (PanE 48 (BE A) (λer=>G3 s e tx ln co=.error er) w f):=by
 refine Nl (X:=XC 65 130 A s w f) (H:=[]) (R:=[]) (B:=[]) (Fs:=[λw f=>AQ w f e ea]) (f:=f) func73 rfl rfl rfl (Lt hv hC hf ⟨hE,tQ⟩ ⟨AQ.mono,tQ⟩)<|go CH 8 [] (λb1=>λb2=>λ_=>?_);refine HK (α:=Bt×Option Addr) (λx=>x.1.length) (λx=>Ix e tx=Ix x.1 tx∧Gt x.1) (λx=>(E4 0 (.pointer (some ⟨A.cb,0,none⟩)) 2 (.pointer x.2) 4 (.pointer (some ⟨b1,0,none⟩)) 6 (.pointer (some ⟨b2,0,none⟩)))) (λx=>⟨BE A,BE A,Au 65 130 A s,w,f⟩) (λx=>[⟨b2,[.int .i64 0,.int .i64 0,.string ⟨#[]⟩,.slice none 0 0],57,true⟩,⟨b1,[.int .i64 op,.int .i64 ln,.int .i64 co,S tx,.int .i64 nm,.slice na kids.len nc],55,true⟩]) (λx=>[]) (λx=>[]) (λx=>[λw f=>AQ w f x.1 x.2]) (e,ea) ⟨rfl,heB⟩ lE (λw f hM=>hM) ?_;rintro⟨e2,ea⟩ ⟨hfi,heb⟩;dsimp only at hfi heb ⊢;refine go CH 2 [] (λ_=>?_)
 cases e2 with
 |nil =>
  refine KA (λw f hM=>(hM.f0:ea=none)) λhea=>?_;subst hea;exact Mx (λw=>AT w A.cb [.pointer (some ⟨A.sb,0,none⟩),.map (some A.km),.map (some A.dm),.map (some A.rm),.int .i64 s.vars] 65) (λw f h _=>h.blk) [0,1] Ap (rd [0,1,2,3,4,5,6,7,8,9,10] .fin) rfl kR kR kR (λ_ _ _ _ _ h=>h)<|AA CH 11 [] (λ_=>B4<|go CH 4 [] (λ_=>GR<|go CH 8 [1] (y<|λ_=>O3 rfl rfl (eC EZ rfl rfl) (λ_ h=>h.elim) (λw f hM=>(Cy w f hM.vl false ln co).mono (λ_ _ ⟨_,_,_,h,_⟩=>by cases h) λ_ _ h=>h) (λer w2 f2 he hE=>⟨rfl,er,f2,rfl,(by rw[G3,hfi,he.2];rfl),hE⟩))))
 |cons b e3 =>
  refine C6 (α:=Nat×Option Addr×Nat×Option Addr×Nat×Option Addr) (λx=>ea=some ⟨x.1,0,none⟩) (λx=>[⟨x.1,0,S b.name::(tC b.t x.2.1 x.2.2.1++[.slice x.2.2.2.1 b.all.length x.2.2.2.2.1,.pointer x.2.2.2.2.2])⟩]) (λx=>[λw f=>Ah w f b.t.kids x.2.1 x.2.2.1,λw f=>B7 w f b.all x.2.2.2.1 x.2.2.2.2.1,λw f=>AQ w f e3 x.2.2.2.2.2]) (λw f hM=>let ⟨k,ta,tc,va,vc,ra,h1,h2,h3,h4,h5⟩:=hM.f0;⟨(k,ta,tc,va,vc,ra),h1,(oE h2),A2.mem ⟨h3,h4,h5,tQ⟩⟩) (λx=>Af.mem ⟨Ah.mono,B7.mono,AQ.mono,tQ⟩) ?_;rintro⟨ek,eta,etc,eva,evc,era⟩ rfl;refine Mx (λw=>AT w A.cb [.pointer (some ⟨A.sb,0,none⟩),.map (some A.km),.map (some A.dm),.map (some A.rm),.int .i64 s.vars] 65) (λw f h _=>h.blk) [0,1] Ap (rd [0,1,2,3,4,5,6,7,8,9,10] .fin) rfl kR kR kR (λ_ _ _ _ _ h=>h)<|AA CH 11 [100,0,1] (y2<|y<|λ_=>B4<|go CH 1 [] (λ_=>Ba 21 rfl rfl (λh1=>?_) (λh1=>?_)));exact go CH 12 [100,6] (y2<|λ_=>DM ((e3,era)) (show e3.length<(b::e3).length from Nat.lt_succ_self _) ⟨hfi.trans (by show (if b.name==tx then some b else Ix e3 tx)=_;rw[if_neg (by have h9:(!(b.name==tx))=true:=h1;intro h8;rw[h8] at h9;cases h9)]),λb2 hb2=>heb b2 (.tail _ hb2)⟩ lE (λw f hM=>⟨_,hM.less sR sR nE (mR [2])⟩));refine go CH 3 [] (λ_=>GR<|go CH 8 [1] (y<|λ_=>Eg (α:=Unit) (val:=λ_=>.tuple #[]) (q:=λ_=>True) (I':=λ_=>Au 65 130 A s) (F':=λ_=>[]) (pe:=λer=>False) (M:=λ_=>False) (T:=48) rfl rfl (eC EZ rfl rfl) (λ_ h=>h.elim) (λw f hM=>(Cy w f hM.vl true ln co).mono (λ_ _ ⟨x,f2,h1,h2,h3,h4⟩=>⟨x,f2,h1,tQ,h3.mono (λ_ h=>h.elim),(hM.call0 h3).res,h4⟩) λ_ _ ⟨_,_,_,h,_⟩=>by cases h.1) (λ_=>Au.stab) (λ_=>trivial) (λer w2 f2 he hE=>he.elim) ?_));rintro⟨⟩ -;have hfb2:Ix e tx=some b:=hfi.trans (by show (if b.name==tx then some b else Ix e3 tx)=_;rw[if_pos (by have h9:(!(b.name==tx))=false:=h1;cases h8:(b.name==tx) with|true=>rfl|false=>rw[h8] at h9;cases h9)]);obtain⟨hbb,hba⟩:=heb b (.head _);refine go CH 3 [] (λ_=>Mx (λw=>AT w A.cb [.pointer (some ⟨A.sb,0,none⟩),.map (some A.km),.map (some A.dm),.map (some A.rm),.int .i64 s.vars] 65) (λw f h _=>h.blk) [0,1] Ap (rd [0,1,2,3,4,5,6,7] (.br 8 (.br 9 (.br 10 .fin .fin) .fin) (.br 9 (.br 8 (.br 10 .fin .fin) .fin) .fin))) rfl kR kR kR (λ_ _ _ _ _ h=>h)<|AA CH 8 [100,1,1] (y2<|y<|λ_=>Ag rfl ?_ ?_));refine Eg rfl rfl (eC Gf rfl rfl) (λ_ h=>h) (λw f hM=>Cz w f hM.vl A hA s hM.res hM.mz hw b.t eta etc hbb hM.f0 ln co) (λ_=>Au.stab) (λ_=>⟨Ah.mono,tQ⟩) (λer w2 f2 he hE=>⟨rfl,er,f2,rfl,(by rw[G3,hfb2];simp only;rw[he]),hE⟩) ?_;rintro⟨tf,fa,fc⟩ ⟨hfl,hfbd,hfsz⟩;dsimp only at hfl hfbd hfsz ⊢;refine go CH 1 [] (λ_=>Bj [0,1] (λw f h _=>h.blk) rfl (λ_ h=>h)<|Ag rfl ?_ Aj);refine go CH 2 [] (λb3=>λ_=>Bj [1,2] (λw f h _=>h.blk) rfl (λ_ h=>h)<|Ag rfl ?_ Aj);refine go CH 2 [0] (y<|λ_=>Bj [1,2] (λw f h _=>h.blk) rfl (λ_ h=>h)<|B4<|go CH 10 [0] (y<|λ_=>BA rfl rfl (eC Mo rfl rfl) (λw f hM=>Hi w f hM.vl tf fa fc oM hfbd hM.f0) (λx=>⟨B7.mono,tQ⟩) ?_));rintro⟨va,vc⟩ -
  have hvl:=Hn tf;refine go CH 5 [] (λ_=>Rd 3 1 ?_);refine HK (α:=Nat×Option Addr×Nat) (λx=>(Aq tf).length-x.1) (λx=>x.1≤(Aq tf).length) (λx=>(E9 0 (.pointer (some ⟨A.cb,0,none⟩)) 2 (.pointer (some ⟨ek,0,none⟩)) 4 (.pointer (some ⟨b1,0,none⟩)) 6 (.pointer (some ⟨b2,0,none⟩)) 7 (.pointer (some ⟨b3,0,none⟩)) 8 (.slice x.2.1 (((Aq tf).take x.1).filter λv=>b.all.contains v).length x.2.2) 41 (.slice va (Aq tf).length vc) 42 (.int .i64 ((Aq tf).length:Int)) 43 (.int .i64 (x.1:Int)))) (λx=>⟨BE A,BE A,Au 65 130 A s,w,f⟩) (λx=>[⟨b3,tC tf fa fc,57,true⟩,⟨b2,[.int .i64 0,.int .i64 0,.string ⟨#[]⟩,.slice none 0 0],57,true⟩,⟨b1,[.int .i64 op,.int .i64 ln,.int .i64 co,S tx,.int .i64 nm,.slice na kids.len nc],55,true⟩]) (λx=>[⟨3,1,x.2.1,x.2.2,(((Aq tf).take x.1).filter λv=>b.all.contains v).length,(((Aq tf).take x.1).filter λv=>b.all.contains v).map λn=>.int .i64 n⟩]) (λx=>[⟨ek,0,S b.name::(tC b.t eta etc++[Value.slice eva b.all.length evc,Value.pointer era])⟩]) (λx=>[λw f=>B7 w f (Aq tf) va vc,λw f=>Ah w f tf.kids fa fc,λw f=>B7 w f b.all eva evc]) (0,none,0) (Nat.zero_le _) lE (λw f hM=>hM.less sR sR (λ_ h=>h) (mR [0,1,3])) ?_;rintro⟨i,ra,rc⟩ hi;dsimp only at hi ⊢;have hfl2:(((Aq tf).take i).filter λv=>b.all.contains v).length≤i:=Nat.le_trans (List.length_filter_le _ _) (by rw[List.length_take];exact Nat.min_le_left _ _);refine go CH 6 [] (λ_=>Ba 44 rfl rfl (λh2=>?_) (λh2=>?_));refine go CH 6 [] (λ_=>?_);have hil:i<(Aq tf).length:=by have:=of_decide_eq_true h2;omega
  obtain⟨v0,hx⟩:∃v,(Aq tf)[i]?=some v:=⟨_,List.getElem?_eq_getElem hil⟩;refine C6 (α:=Nat×Nat) (λx=>va=some ⟨x.1,x.2,none⟩) (λx=>[⟨x.1,x.2+i*1,[.int .i64 v0]⟩]) (λx=>[]) (λw f hM=>let ⟨b,off,h1,h2⟩:=B7.get hM.f0 hx;⟨(b,off),h1,(oE h2),λ_ h=>by cases h⟩) (λx=>Af.mem tQ) ?_;rintro⟨vb,voff⟩ rfl;refine go CH 14 [100,0,101,5] (And.intro oM<|y2<|y2<|λ_=>BA rfl rfl (eC Qm rfl rfl) (λw f hM=>FE w f hM.vl b.all eva evc v0 hba hM.f2) (λx=>trivial) ?_);rintro⟨⟩ -;refine go CH 2 [] (λ_=>Ba 53 rfl rfl (λh3=>?_) (λh3=>?_));refine go CH 5 [] (λb4=>λ_=>DR 0 0 rfl rfl M1 rfl rfl rfl rfl rfl rfl rfl rfl (λ_ _=>rfl) oM oM λra2 rc2=>go CH 8 [] (And.intro ⟨oM,oM⟩<|λ_=>?_));have hfe:(((Aq tf).take (i+1)).filter λv=>b.all.contains v)=(((Aq tf).take i).filter λv=>b.all.contains v)++[v0]:=by rw[D1 hx,List.filter_append];have h9:v0∈b.all:=(by simpa using h3);simp[h9]
  exact DM ((i+1,ra2,rc2)) (show (Aq tf).length-(i+1)<(Aq tf).length-i by omega) (show i+1≤_ by omega) (fS rfl rfl rfl rfl rfl (Eq.trans (b:=some (Value.slice ra2 ((((Aq tf).take i).filter λv=>b.all.contains v).length+1) rc2)) rfl (by dsimp only;rw[hfe];simp)) rfl rfl rfl) (λw f hM=>⟨_,by dsimp only;rw[hfe];rw[List.length_append,List.map_append];exact hM.less (.cons _ sR) sR (λ_ h=>by rcases List.mem_cons.1 h with rfl|h;exact .tail _ (.head _);cases h) (mR [0,1,2])⟩);refine go CH 8 [] (And.intro ⟨oM,oM⟩<|λ_=>?_);have hfe:(((Aq tf).take (i+1)).filter λv=>b.all.contains v)=(((Aq tf).take i).filter λv=>b.all.contains v):=by rw[D1 hx,List.filter_append];have h9:v0∉b.all:=(by simpa using h3);simp[h9]
  exact DM ((i+1,ra,rc)) (show (Aq tf).length-(i+1)<(Aq tf).length-i by omega) (show i+1≤_ by omega) (fS rfl rfl rfl rfl rfl (Eq.trans (b:=some (Value.slice ra (((Aq tf).take i).filter λv=>b.all.contains v).length rc)) rfl (by dsimp only;rw[hfe])) rfl rfl rfl) (λw f hM=>⟨_,by dsimp only;rw[hfe];skip;exact hM.less sR sR (λ_ h=>by rcases List.mem_cons.1 h with rfl|h;exact .tail _ (.head _);cases h) (mR [0,1,2])⟩);refine go CH 3 [] (λ_=>GR<|go CH 3 [] (λ_=>?_));obtain rfl:i=(Aq tf).length:=by have:=of_decide_eq_false h2;omega
  rw[List.take_length] at *;refine Rb (λw f=>B7 w f ((Aq tf).filter λv=>b.all.contains v) ra rc) B7.mono (λw f hM=>MR hM)<|Mx (λw=>AT w A.cb [.pointer (some ⟨A.sb,0,none⟩),.map (some A.km),.map (some A.dm),.map (some A.rm),.int .i64 s.vars] 65) (λw f h _=>h.blk) [0,2] Ap (rd [0,1,2,3] (.br 4 (.br 5 (.br 6 .fin .fin) .fin) .fin)) rfl kR kR kR (λ_ _ _ _ _ h=>h)<|AA CH 4 [0] (y<|λ_=>Ag rfl ?_ Aj);refine OM (XX:=λ_ _=>False) rfl rfl (eC QG rfl rfl) (λw f hM=>(LX w f hM.vl A hA s hM.res hM.mz hw ((Aq tf).filter λv=>b.all.contains v) ra rc oM oM).retP) (λ_=>Au.stab) (λ_=>⟨Ah.mono,tQ⟩) (λ_ _ _ _ _ h=>h.elim) ?_;rintro⟨na2,nc2⟩ -;have hnl:(B2 ((Aq tf).filter λv=>b.all.contains v) s).1.len=((Aq tf).filter λv=>b.all.contains v).length:=by rw[BU];exact Gc _ _
  have hnb:(B2 ((Aq tf).filter λv=>b.all.contains v) s).1.bnd:=by rw[BU];exact IV _ _
  refine go CH 1 [] (λ_=>Bj [0,2] (λw f h _=>(by have h9:=h.blk;rw[BU] at h9;exact h9)) rfl (λ_ h=>h)<|Ag rfl ?_ Aj);refine BA rfl rfl (eC DD rfl rfl) (λw f hM=>BJ w f hM.vl ((Aq tf).filter λv=>b.all.contains v) ra rc (B2 ((Aq tf).filter λv=>b.all.contains v) s).1 na2 nc2 oM oM hnb hM.f1 hM.f0 tf fa fc hfbd hM.f3) (λx=>⟨Ah.mono,tQ⟩) ?_;rintro⟨a3,c3⟩ -;refine go CH 1 [] (λ_=>Bj [0,2] (λw f h _=>(by have h9:=h.blk;rw[BU] at h9;exact h9)) rfl (λ_ h=>h)<|Ag rfl ?_ Aj);refine go CH 2 [1] (y<|λ_=>Bj [0,2] (λw f h _=>(by have h9:=h.blk;rw[BU] at h9;exact h9)) rfl (λ_ h=>h)<|B4<|go CH 2 [] (λ_=>?_));have hlk:G3 s e tx ln co=.ok (C2 tf ((Aq tf).filter λv=>b.all.contains v) (B2 ((Aq tf).filter λv=>b.all.contains v) s).1,(B2 ((Aq tf).filter λv=>b.all.contains v) s).2):=by rw[G3,hfb2];simp only;rw[hfl]
  exact Bc (λw f hM=>AJ rfl (Ac rfl AI hM.k1 rfl)) (λw f hM=>⟨((C2 tf ((Aq tf).filter λv=>b.all.contains v) (B2 ((Aq tf).filter λv=>b.all.contains v) s).1,a3,c3),(B2 ((Aq tf).filter λv=>b.all.contains v) s).2),f,rfl,⟨hlk,JX hnb hfbd,(by rw[BU];exact hw.fresh (by have:=hw.fr;omega)),(by rw[BU];show s.fresh+_≤_;omega)⟩,hM.exm,hM.res,⟨hM.f0,tQ⟩⟩);refine Ag rfl ?_ Aj;refine go CH 2 [] (λb5=>λ_=>Bj [1,2] (λw f h _=>h.blk) rfl (λ_ h=>h)<|Ag rfl ?_ Aj);refine Eg rfl rfl (eC Gf rfl rfl) (λ_ h=>h) (λw f hM=>Cz w f hM.vl A hA s hM.res hM.mz hw b.t eta etc hbb hM.f0 ln co) (λ_=>Au.stab) (λ_=>⟨Ah.mono,tQ⟩) (λer w2 f2 he hE=>⟨rfl,er,f2,rfl,(by rw[G3,hfb2];simp only;rw[he]),hE⟩) ?_;rintro⟨tf,fa,fc⟩ ⟨hfl,hfbd,hfsz⟩;dsimp only at hfl hfbd hfsz ⊢;refine go CH 1 [] (λ_=>Bj [1,2] (λw f h _=>h.blk) rfl (λ_ h=>h)<|Ag rfl ?_ Aj);refine go CH 2 [0] (y<|λ_=>Bj [1,2] (λw f h _=>h.blk) rfl (λ_ h=>h)<|B4<|go CH 10 [0] (y<|λ_=>BA rfl rfl (eC Mo rfl rfl) (λw f hM=>Hi w f hM.vl tf fa fc oM hfbd hM.f0) (λx=>⟨B7.mono,tQ⟩) ?_));rintro⟨va,vc⟩ -;have hvl:=Hn tf;refine go CH 5 [] (λ_=>Rd 3 1 ?_);refine HK (α:=Nat×Option Addr×Nat) (λx=>(Aq tf).length-x.1) (λx=>x.1≤(Aq tf).length) (λx=>(E9 0 (.pointer (some ⟨A.cb,0,none⟩)) 2 (.pointer (some ⟨ek,0,none⟩)) 4 (.pointer (some ⟨b1,0,none⟩)) 6 (.pointer (some ⟨b2,0,none⟩)) 7 (.pointer (some ⟨b5,0,none⟩)) 8 (.slice x.2.1 (((Aq tf).take x.1).filter λv=>b.all.contains v).length x.2.2) 41 (.slice va (Aq tf).length vc) 42 (.int .i64 ((Aq tf).length:Int)) 43 (.int .i64 (x.1:Int)))) (λx=>⟨BE A,BE A,Au 65 130 A s,w,f⟩) (λx=>[⟨b5,tC tf fa fc,57,true⟩,⟨b2,[.int .i64 0,.int .i64 0,.string ⟨#[]⟩,.slice none 0 0],57,true⟩,⟨b1,[.int .i64 op,.int .i64 ln,.int .i64 co,S tx,.int .i64 nm,.slice na kids.len nc],55,true⟩]) (λx=>[⟨3,1,x.2.1,x.2.2,(((Aq tf).take x.1).filter λv=>b.all.contains v).length,(((Aq tf).take x.1).filter λv=>b.all.contains v).map λn=>.int .i64 n⟩]) (λx=>[⟨ek,0,S b.name::(tC b.t eta etc++[Value.slice eva b.all.length evc,Value.pointer era])⟩]) (λx=>[λw f=>B7 w f (Aq tf) va vc,λw f=>Ah w f tf.kids fa fc,λw f=>B7 w f b.all eva evc]) (0,none,0) (Nat.zero_le _) lE (λw f hM=>hM.less sR sR (λ_ h=>h) (mR [0,1,3])) ?_;rintro⟨i,ra,rc⟩ hi;dsimp only at hi ⊢;have hfl2:(((Aq tf).take i).filter λv=>b.all.contains v).length≤i:=Nat.le_trans (List.length_filter_le _ _) (by rw[List.length_take];exact Nat.min_le_left _ _);refine go CH 6 [] (λ_=>Ba 44 rfl rfl (λh4=>?_) (λh4=>?_));refine go CH 6 [] (λ_=>?_);have hil:i<(Aq tf).length:=by have:=of_decide_eq_true h4;omega
  obtain⟨v0,hx⟩:∃v,(Aq tf)[i]?=some v:=⟨_,List.getElem?_eq_getElem hil⟩;refine C6 (α:=Nat×Nat) (λx=>va=some ⟨x.1,x.2,none⟩) (λx=>[⟨x.1,x.2+i*1,[.int .i64 v0]⟩]) (λx=>[]) (λw f hM=>let ⟨b,off,h1,h2⟩:=B7.get hM.f0 hx;⟨(b,off),h1,(oE h2),λ_ h=>by cases h⟩) (λx=>Af.mem tQ) ?_;rintro⟨vb,voff⟩ rfl;refine go CH 14 [100,0,101,5] (And.intro oM<|y2<|y2<|λ_=>BA rfl rfl (eC Qm rfl rfl) (λw f hM=>FE w f hM.vl b.all eva evc v0 hba hM.f2) (λx=>trivial) ?_);rintro⟨⟩ -;refine go CH 2 [] (λ_=>Ba 53 rfl rfl (λh5=>?_) (λh5=>?_));refine go CH 5 [] (λb6=>λ_=>DR 0 0 rfl rfl M1 rfl rfl rfl rfl rfl rfl rfl rfl (λ_ _=>rfl) oM oM λra2 rc2=>go CH 8 [] (And.intro ⟨oM,oM⟩<|λ_=>?_));have hfe:(((Aq tf).take (i+1)).filter λv=>b.all.contains v)=(((Aq tf).take i).filter λv=>b.all.contains v)++[v0]:=by rw[D1 hx,List.filter_append];have h9:v0∈b.all:=(by simpa using h5);simp[h9]
  exact DM ((i+1,ra2,rc2)) (show (Aq tf).length-(i+1)<(Aq tf).length-i by omega) (show i+1≤_ by omega) (fS rfl rfl rfl rfl rfl (Eq.trans (b:=some (Value.slice ra2 ((((Aq tf).take i).filter λv=>b.all.contains v).length+1) rc2)) rfl (by dsimp only;rw[hfe];simp)) rfl rfl rfl) (λw f hM=>⟨_,by dsimp only;rw[hfe];rw[List.length_append,List.map_append];exact hM.less (.cons _ sR) sR (λ_ h=>by rcases List.mem_cons.1 h with rfl|h;exact .tail _ (.head _);cases h) (mR [0,1,2])⟩);refine go CH 8 [] (And.intro ⟨oM,oM⟩<|λ_=>?_);have hfe:(((Aq tf).take (i+1)).filter λv=>b.all.contains v)=(((Aq tf).take i).filter λv=>b.all.contains v):=by rw[D1 hx,List.filter_append];have h9:v0∉b.all:=(by simpa using h5);simp[h9]
  exact DM ((i+1,ra,rc)) (show (Aq tf).length-(i+1)<(Aq tf).length-i by omega) (show i+1≤_ by omega) (fS rfl rfl rfl rfl rfl (Eq.trans (b:=some (Value.slice ra (((Aq tf).take i).filter λv=>b.all.contains v).length rc)) rfl (by dsimp only;rw[hfe])) rfl rfl rfl) (λw f hM=>⟨_,by dsimp only;rw[hfe];skip;exact hM.less sR sR (λ_ h=>by rcases List.mem_cons.1 h with rfl|h;exact .tail _ (.head _);cases h) (mR [0,1,2])⟩);refine go CH 3 [] (λ_=>GR<|go CH 3 [] (λ_=>?_));obtain rfl:i=(Aq tf).length:=by have:=of_decide_eq_false h4;omega
  rw[List.take_length] at *;refine Rb (λw f=>B7 w f ((Aq tf).filter λv=>b.all.contains v) ra rc) B7.mono (λw f hM=>MR hM)<|Mx (λw=>AT w A.cb [.pointer (some ⟨A.sb,0,none⟩),.map (some A.km),.map (some A.dm),.map (some A.rm),.int .i64 s.vars] 65) (λw f h _=>h.blk) [0,2] Ap (rd [0,1,2,3] (.br 4 (.br 5 (.br 6 .fin .fin) .fin) .fin)) rfl kR kR kR (λ_ _ _ _ _ h=>h)<|AA CH 4 [0] (y<|λ_=>Ag rfl ?_ Aj);refine OM (XX:=λ_ _=>False) rfl rfl (eC QG rfl rfl) (λw f hM=>(LX w f hM.vl A hA s hM.res hM.mz hw ((Aq tf).filter λv=>b.all.contains v) ra rc oM oM).retP) (λ_=>Au.stab) (λ_=>⟨Ah.mono,tQ⟩) (λ_ _ _ _ _ h=>h.elim) ?_;rintro⟨na2,nc2⟩ -;have hnl:(B2 ((Aq tf).filter λv=>b.all.contains v) s).1.len=((Aq tf).filter λv=>b.all.contains v).length:=by rw[BU];exact Gc _ _
  have hnb:(B2 ((Aq tf).filter λv=>b.all.contains v) s).1.bnd:=by rw[BU];exact IV _ _
  refine go CH 1 [] (λ_=>Bj [0,2] (λw f h _=>(by have h9:=h.blk;rw[BU] at h9;exact h9)) rfl (λ_ h=>h)<|Ag rfl ?_ Aj);refine BA rfl rfl (eC DD rfl rfl) (λw f hM=>BJ w f hM.vl ((Aq tf).filter λv=>b.all.contains v) ra rc (B2 ((Aq tf).filter λv=>b.all.contains v) s).1 na2 nc2 oM oM hnb hM.f1 hM.f0 tf fa fc hfbd hM.f3) (λx=>⟨Ah.mono,tQ⟩) ?_;rintro⟨a3,c3⟩ -;refine go CH 1 [] (λ_=>Bj [0,2] (λw f h _=>(by have h9:=h.blk;rw[BU] at h9;exact h9)) rfl (λ_ h=>h)<|Ag rfl ?_ Aj);refine go CH 2 [1] (y<|λ_=>Bj [0,2] (λw f h _=>(by have h9:=h.blk;rw[BU] at h9;exact h9)) rfl (λ_ h=>h)<|B4<|go CH 2 [] (λ_=>?_));have hlk:G3 s e tx ln co=.ok (C2 tf ((Aq tf).filter λv=>b.all.contains v) (B2 ((Aq tf).filter λv=>b.all.contains v) s).1,(B2 ((Aq tf).filter λv=>b.all.contains v) s).2):=by rw[G3,hfb2];simp only;rw[hfl]
  exact Bc (λw f hM=>AJ rfl (Ac rfl AI hM.k1 rfl)) (λw f hM=>⟨((C2 tf ((Aq tf).filter λv=>b.all.contains v) (B2 ((Aq tf).filter λv=>b.all.contains v) s).1,a3,c3),(B2 ((Aq tf).filter λv=>b.all.contains v) s).2),f,rfl,⟨hlk,JX hnb hfbd,(by rw[BU];exact hw.fresh (by have:=hw.fr;omega)),(by rw[BU];show s.fresh+_≤_;omega)⟩,hM.exm,hM.res,⟨hM.f0,tQ⟩⟩)
def xA:Eh:=⟨[(65,0,0),(102,1,1),(100,0,0),(102,2,6),(100,1,4)],[(22,3,1)],[],[],[(57,true,4),(50,false,1),(3,false,1),(22,false,1)],[(57,[.int .i64 0,.int .i64 0,.string ⟨#[]⟩,.slice none 0 0])],[],[(50,102)]⟩
theorem CI:xA.Ok prog:=⟨(And.intro Ky (And.intro SO (And.intro Ot (And.intro SZ (And.intro OA tQ))))),(And.intro KD tQ),tQ,tQ,(And.intro AI (And.intro gB (And.intro Dd (And.intro KE tQ)))),(And.intro DN tQ),tQ,(And.intro gK tQ)⟩
theorem WT(w:World)(f:Fq)(hv:Vl w f)(A:Ad)(hA:A.ok)(s:CS)(hC:Au 65 130 A s w f)(hf:∀b,BE A b→f b=0)(hw:DZ s)(e:Bt)(ea:Option Addr)(heB:Gt e)(hE:AQ w f e ea) :
  BC prog 51 #[.pointer (some ⟨A.cb,0,none⟩),.pointer ea] w (OL (α:=Nat×List Int) (λx=>.map (some x.1)) (λx=>¬BE A x.1∧x.2.Nodup∧∀n,x.2.contains n=(BB s e).contains n) (BE A) (λx b=>BE A b∨b=x.1) (λx=>LH 65 130 A s x.1 x.2) (λ_=>[]) w f):=by
 refine Dl (X:=XC 65 130 A s w f) (H:=[]) (R:=[]) (B:=[]) (Fs:=[λw f=>AQ w f e ea]) (f:=f) func51 rfl rfl rfl (Lt hv hC hf ⟨hE,tQ⟩ ⟨AQ.mono,tQ⟩)<|go CI 7 [] (λ_=>Z5 (K:=Fw) rfl rfl λmb hmn=>go CI 5 [] (λ_=>?_));refine HK (α:=Bt×Option Addr×List Int) (λx=>x.1.length) (λx=>x.2.2.Nodup∧(∀n,(x.2.2.contains n||(BB s x.1).contains n)=(BB s e).contains n)∧Gt x.1) (λx=>(E3 0 (.pointer (some ⟨A.cb,0,none⟩)) 1 (.pointer x.2.1) 5 (.map (some mb)))) (λx=>⟨BE A,λb=>BE A b∨b=mb,LH 65 130 A s mb x.2.2,w,f⟩) (λx=>[]) (λx=>[]) (λx=>[]) (λx=>[λw f=>AQ w f x.1 x.2.1]) (e,ea,[]) ⟨List.nodup_nil,λn=>by simp,heB⟩ lE (λw f hM=>hM) ?_;rintro⟨e2,ea,ll⟩ ⟨hnd,hq,heb⟩;dsimp only at hnd hq heb ⊢;refine go CI 2 [] (λ_=>?_)
 cases e2 with
 |nil =>
  refine KA (λw f hM=>(hM.f0:ea=none)) λhea=>?_;subst hea;refine go CI 8 [] (λ_=>GR<|go CI 9 [] (λ_=>?_));have hq5:∀n,ll.contains n=(BB s e).contains n:=λn=>by have h9:=hq n;simpa[BB] using h9
  exact Bc (DI rfl rfl) (λw f hM=>⟨(mb,ll),f,rfl,⟨hmn,hnd,hq5⟩,hM.exm,(λb hb=>let ⟨h1,h2,h3⟩:=hM.mi b hb;h3.elim (λh=>.inr ⟨h,h1,h2⟩) .inl),hM.res,tQ⟩)
 |cons b e3 =>
  refine C6 (α:=Nat×Option Addr×Nat×Option Addr×Nat×Option Addr) (λx=>ea=some ⟨x.1,0,none⟩) (λx=>[⟨x.1,0,S b.name::(tC b.t x.2.1 x.2.2.1++[.slice x.2.2.2.1 b.all.length x.2.2.2.2.1,.pointer x.2.2.2.2.2])⟩]) (λx=>[λw f=>Ah w f b.t.kids x.2.1 x.2.2.1,λw f=>B7 w f b.all x.2.2.2.1 x.2.2.2.2.1,λw f=>AQ w f e3 x.2.2.2.2.2]) (λw f hM=>let ⟨k,ta,tc,va,vc,ra,h1,h2,h3,h4,h5⟩:=hM.f0;⟨(k,ta,tc,va,vc,ra),h1,(oE h2),A2.mem ⟨h3,h4,h5,tQ⟩⟩) (λx=>Af.mem ⟨Ah.mono,B7.mono,AQ.mono,tQ⟩) ?_;rintro⟨ek,eta,etc,eva,evc,era⟩ rfl;obtain⟨hbb,hba⟩:=heb b (.head _);refine go CI 11 [] (λ_=>Mx (λw=>AT w A.cb [.pointer (some ⟨A.sb,0,none⟩),.map (some A.km),.map (some A.dm),.map (some A.rm),.int .i64 s.vars] 65) (λw f h _=>h.1.blk) [] Ap (rd [0,1,2,3,4,5,6,7,8] (.br 9 (rd [10,11,12] (.br 13 (.br 14 (.rd 15 .fin) .fin) .fin)) (.br 13 (.br 9 (rd [10,11,12] (.br 14 (.rd 15 .fin) .fin)) .fin) .fin))) rfl kR kR kR (λ_ _ _ _ _ h=>h)<|AA CI 3 [] (λ_=>Ik rfl rfl rfl (λw hK=>Al rfl HU hK.2.2 rfl)<|AA CI 5 [100,1] (y2<|λ_=>Ag rfl ?_ ?_)));refine BA (α:=Option Addr×Nat) rfl rfl (eC QF rfl rfl) (λw f hM=>let ⟨pr,hp⟩:=hM.res.1.sol;K1 w f hM.vl A.sb A.mb s.sol s.fresh pr hp hw.sol b.t eta etc hbb hM.f0) (λ_=>⟨Ah.mono,tQ⟩) ?_;rintro⟨a2,c2⟩ -;refine go CI 1 [] (λ_=>Bj [] (λw f h _=>h.1.blk) rfl (λ_ h=>h)<|AA CI 3 [] (λ_=>Ag rfl ?_ Aj));refine go CI 2 [] (λb1=>λ_=>Bj [] (λw f h _=>h.1.blk) rfl (λ_ h=>h)<|Ag rfl ?_ Aj);refine go CI 2 [0] (y<|λ_=>Bj [] (λw f h _=>h.1.blk) rfl (λ_ h=>h)<|AA CI 1 [] (λ_=>B4<|go CI 8 [] (λ_=>Ba 31 rfl rfl (λh1=>?_) (λh1=>?_))));refine go CI 5 [] (λ_=>?_);have hfn:CL s.sol b.t=none:=by cases hx:CL s.sol b.t with|none=>rfl|some z=>rw[hx] at h1;cases h1
  replace hq:∀n,(ll.contains n||(BB s e3).contains n)=(BB s e).contains n:=λn=>by have h9:=hq n;simp only[BB,hfn] at h9;simpa using h9
  exact go CI 7 [100,6] (y2<|λ_=>DM ((e3,era,ll)) (show e3.length<(b::e3).length from Nat.lt_succ_self _) ⟨hnd,hq,λb2 hb2=>heb b2 (.tail _ hb2)⟩ lE (λw f hM=>⟨_,hM.less (.cons _ sR) sR nE (mR [3])⟩));refine go CI 4 [] (λ_=>?_);obtain⟨tf,htf⟩:∃z,CL s.sol b.t=some z:=by cases hx:CL s.sol b.t with|some z=>exact⟨z,rfl⟩|none=>rw[hx] at h1;cases h1
  have hfbd:tf.bnd:=Kv hw.sol hbb htf;have hfsz:=IX htf;rw[htf];dsimp only[Option.getD_some];have hfr:∀n,(BB s (b::e3)).contains n=((((Aq tf).drop 0).filter λv=>!b.all.contains v).contains n||(BB s e3).contains n):=λn=>by simp only[BB,htf,List.drop_zero,List.contains_append]
  refine go CI 2 [0] (y<|λ_=>BA rfl rfl (eC Mo rfl rfl) (λw f hM=>Hi w f hM.vl tf a2 c2 oM hfbd hM.f0) (λx=>⟨B7.mono,tQ⟩) ?_);rintro⟨va,vc⟩ -;have hvl:=Hn tf;refine go CI 5 [] (λ_=>?_);refine HK (α:=Nat×List Int) (λx=>(Aq tf).length-x.1) (λx=>x.1≤(Aq tf).length∧x.2.Nodup∧(∀n,((x.2.contains n||(((Aq tf).drop x.1).filter λv=>!b.all.contains v).contains n)||(BB s e3).contains n)=(BB s e).contains n)) (λx=>(E6 0 (.pointer (some ⟨A.cb,0,none⟩)) 1 (.pointer (some ⟨ek,0,none⟩)) 5 (.map (some mb)) 33 (.slice va (Aq tf).length vc) 34 (.int .i64 ((Aq tf).length:Int)) 35 (.int .i64 (x.1:Int)))) (λx=>⟨BE A,λb=>BE A b∨b=mb,LH 65 130 A s mb x.2,w,f⟩) (λx=>[]) (λx=>[]) (λx=>[⟨ek,0,S b.name::(tC b.t eta etc++[Value.slice eva b.all.length evc,Value.pointer era])⟩]) (λx=>[λw f=>B7 w f (Aq tf) va vc,λw f=>B7 w f b.all eva evc,λw f=>AQ w f e3 era]) (0,ll) ⟨Nat.zero_le _,hnd,λn=>by rw[← hq n,hfr n,Bool.or_assoc]⟩ lE (λw f hM=>hM.less (.cons _ sR) sR (λ_ h=>h) (mR [0,3,4])) ?_;rintro⟨i,l2⟩ ⟨hi,hnd2,hq3⟩;dsimp only at hi hnd2 hq3 ⊢;refine go CI 6 [] (λ_=>Ba 36 rfl rfl (λh2=>?_) (λh2=>?_));refine go CI 6 [] (λ_=>?_);have hil:i<(Aq tf).length:=by have:=of_decide_eq_true h2;omega
  obtain⟨v0,hx⟩:∃v,(Aq tf)[i]?=some v:=⟨_,List.getElem?_eq_getElem hil⟩;refine C6 (α:=Nat×Nat) (λx=>va=some ⟨x.1,x.2,none⟩) (λx=>[⟨x.1,x.2+i*1,[.int .i64 v0]⟩]) (λx=>[]) (λw f hM=>let ⟨b,off,h1,h2⟩:=B7.get hM.f0 hx;⟨(b,off),h1,(oE h2),λ_ h=>by cases h⟩) (λx=>Af.mem tQ) ?_;rintro⟨vb,voff⟩ rfl;have hdr:(Aq tf).drop i=v0::(Aq tf).drop (i+1):=by obtain⟨h8,h9⟩:=List.getElem?_eq_some_iff.1 hx;rw[List.drop_eq_getElem_cons h8,h9]
  refine go CI 14 [100,0,101,5] (And.intro oM<|y2<|y2<|λ_=>BA rfl rfl (eC Qm rfl rfl) (λw f hM=>FE w f hM.vl b.all eva evc v0 hba hM.f1) (λx=>trivial) ?_);rintro⟨⟩ -;refine go CI 3 [] (λ_=>Ba 46 rfl rfl (λh3=>?_) (λh3=>?_));replace h3:=Gg h3;refine go CI 4 [] (λ_=>qC (l:=l2) (v:=v0) rfl rfl rfl rfl Nx OJ hmn hnd2<|go CI 7 [] (And.intro ⟨oM,oM⟩<|λ_=>?_));have hq4:∀n,(((if l2.contains v0 then l2 else l2++[v0]).contains n||(((Aq tf).drop (i+1)).filter λv=>!b.all.contains v).contains n)||(BB s e3).contains n)=(BB s e).contains n:=λn=>by have h9:=hq3 n;have h8:(!b.all.contains v0)=true:=(by rw[h3];rfl);rw[hdr,List.filter_cons_of_pos (p:=λv=>!b.all.contains v) h8] at h9;rw[← h9,L4]
  exact DM ((i+1,(if l2.contains v0 then l2 else l2++[v0]))) (show (Aq tf).length-(i+1)<(Aq tf).length-i by omega) ⟨show i+1≤_ by omega,(Pz hnd2),hq4⟩ lE (λw f hM=>⟨_,hM.less sR sR (λ_ h=>by rcases List.mem_cons.1 h with rfl|h;exact .tail _ (.head _);cases h) (mR [0,1,2])⟩);replace h3:=Gs h3;refine go CI 8 [] (And.intro ⟨oM,oM⟩<|λ_=>?_);have hq4:∀n,((l2.contains n||(((Aq tf).drop (i+1)).filter λv=>!b.all.contains v).contains n)||(BB s e3).contains n)=(BB s e).contains n:=λn=>by have h9:=hq3 n;rw[hdr,List.filter_cons_of_neg (by rw[h3];decide)] at h9;exact h9
  exact DM ((i+1,l2)) (show (Aq tf).length-(i+1)<(Aq tf).length-i by omega) ⟨show i+1≤_ by omega,hnd2,hq4⟩ lE (λw f hM=>⟨_,hM.less sR sR (λ_ h=>by rcases List.mem_cons.1 h with rfl|h;exact .tail _ (.head _);cases h) (mR [0,1,2])⟩);refine go CI 3 [] (λ_=>GR<|go CI 3 [] (λ_=>?_));have hie:(Aq tf).length≤i:=by have:=of_decide_eq_false h2;omega
  have hq2:∀n,(l2.contains n||(BB s e3).contains n)=(BB s e).contains n:=λn=>by have h9:=hq3 n;rw[List.drop_eq_nil_of_le hie] at h9;simpa using h9
  exact go CI 7 [100,6] (y2<|λ_=>DM ((e3,era,l2)) (show e3.length<(b::e3).length from Nat.lt_succ_self _) ⟨hnd2,hq2,λb2 hb2=>heb b2 (.tail _ hb2)⟩ lE (λw f hM=>⟨_,hM.less sR sR nE (mR [2])⟩));refine Ag rfl ?_ Aj;refine go CI 2 [] (λb2=>λ_=>Bj [] (λw f h _=>h.1.blk) rfl (λ_ h=>h)<|Ag rfl ?_ Aj);refine BA (α:=Option Addr×Nat) rfl rfl (eC QF rfl rfl) (λw f hM=>let ⟨pr,hp⟩:=hM.res.1.sol;K1 w f hM.vl A.sb A.mb s.sol s.fresh pr hp hw.sol b.t eta etc hbb hM.f0) (λ_=>⟨Ah.mono,tQ⟩) ?_;rintro⟨a2,c2⟩ -;refine go CI 1 [] (λ_=>Bj [] (λw f h _=>h.1.blk) rfl (λ_ h=>h)<|AA CI 3 [] (λ_=>Ag rfl ?_ Aj));refine go CI 2 [0] (y<|λ_=>Bj [] (λw f h _=>h.1.blk) rfl (λ_ h=>h)<|AA CI 1 [] (λ_=>B4<|go CI 8 [] (λ_=>Ba 31 rfl rfl (λh4=>?_) (λh4=>?_))));refine go CI 5 [] (λ_=>?_);have hfn:CL s.sol b.t=none:=by cases hx:CL s.sol b.t with|none=>rfl|some z=>rw[hx] at h4;cases h4
  replace hq:∀n,(ll.contains n||(BB s e3).contains n)=(BB s e).contains n:=λn=>by have h9:=hq n;simp only[BB,hfn] at h9;simpa using h9
  exact go CI 7 [100,6] (y2<|λ_=>DM ((e3,era,ll)) (show e3.length<(b::e3).length from Nat.lt_succ_self _) ⟨hnd,hq,λb2 hb2=>heb b2 (.tail _ hb2)⟩ lE (λw f hM=>⟨_,hM.less (.cons _ sR) sR nE (mR [3])⟩));refine go CI 4 [] (λ_=>?_);obtain⟨tf,htf⟩:∃z,CL s.sol b.t=some z:=by cases hx:CL s.sol b.t with|some z=>exact⟨z,rfl⟩|none=>rw[hx] at h4;cases h4
  have hfbd:tf.bnd:=Kv hw.sol hbb htf;have hfsz:=IX htf;rw[htf];dsimp only[Option.getD_some];have hfr:∀n,(BB s (b::e3)).contains n=((((Aq tf).drop 0).filter λv=>!b.all.contains v).contains n||(BB s e3).contains n):=λn=>by simp only[BB,htf,List.drop_zero,List.contains_append]
  refine go CI 2 [0] (y<|λ_=>BA rfl rfl (eC Mo rfl rfl) (λw f hM=>Hi w f hM.vl tf a2 c2 oM hfbd hM.f0) (λx=>⟨B7.mono,tQ⟩) ?_);rintro⟨va,vc⟩ -;have hvl:=Hn tf;refine go CI 5 [] (λ_=>?_);refine HK (α:=Nat×List Int) (λx=>(Aq tf).length-x.1) (λx=>x.1≤(Aq tf).length∧x.2.Nodup∧(∀n,((x.2.contains n||(((Aq tf).drop x.1).filter λv=>!b.all.contains v).contains n)||(BB s e3).contains n)=(BB s e).contains n)) (λx=>(E6 0 (.pointer (some ⟨A.cb,0,none⟩)) 1 (.pointer (some ⟨ek,0,none⟩)) 5 (.map (some mb)) 33 (.slice va (Aq tf).length vc) 34 (.int .i64 ((Aq tf).length:Int)) 35 (.int .i64 (x.1:Int)))) (λx=>⟨BE A,λb=>BE A b∨b=mb,LH 65 130 A s mb x.2,w,f⟩) (λx=>[]) (λx=>[]) (λx=>[⟨ek,0,S b.name::(tC b.t eta etc++[Value.slice eva b.all.length evc,Value.pointer era])⟩]) (λx=>[λw f=>B7 w f (Aq tf) va vc,λw f=>B7 w f b.all eva evc,λw f=>AQ w f e3 era]) (0,ll) ⟨Nat.zero_le _,hnd,λn=>by rw[← hq n,hfr n,Bool.or_assoc]⟩ lE (λw f hM=>hM.less (.cons _ sR) sR (λ_ h=>h) (mR [0,3,4])) ?_;rintro⟨i,l2⟩ ⟨hi,hnd2,hq3⟩;dsimp only at hi hnd2 hq3 ⊢;refine go CI 6 [] (λ_=>Ba 36 rfl rfl (λh5=>?_) (λh5=>?_));refine go CI 6 [] (λ_=>?_);have hil:i<(Aq tf).length:=by have:=of_decide_eq_true h5;omega
  obtain⟨v0,hx⟩:∃v,(Aq tf)[i]?=some v:=⟨_,List.getElem?_eq_getElem hil⟩;refine C6 (α:=Nat×Nat) (λx=>va=some ⟨x.1,x.2,none⟩) (λx=>[⟨x.1,x.2+i*1,[.int .i64 v0]⟩]) (λx=>[]) (λw f hM=>let ⟨b,off,h1,h2⟩:=B7.get hM.f0 hx;⟨(b,off),h1,(oE h2),λ_ h=>by cases h⟩) (λx=>Af.mem tQ) ?_;rintro⟨vb,voff⟩ rfl;have hdr:(Aq tf).drop i=v0::(Aq tf).drop (i+1):=by obtain⟨h8,h9⟩:=List.getElem?_eq_some_iff.1 hx;rw[List.drop_eq_getElem_cons h8,h9]
  refine go CI 14 [100,0,101,5] (And.intro oM<|y2<|y2<|λ_=>BA rfl rfl (eC Qm rfl rfl) (λw f hM=>FE w f hM.vl b.all eva evc v0 hba hM.f1) (λx=>trivial) ?_);rintro⟨⟩ -;refine go CI 3 [] (λ_=>Ba 46 rfl rfl (λh6=>?_) (λh6=>?_));replace h6:=Gg h6;refine go CI 4 [] (λ_=>qC (l:=l2) (v:=v0) rfl rfl rfl rfl Nx OJ hmn hnd2<|go CI 7 [] (And.intro ⟨oM,oM⟩<|λ_=>?_));have hq4:∀n,(((if l2.contains v0 then l2 else l2++[v0]).contains n||(((Aq tf).drop (i+1)).filter λv=>!b.all.contains v).contains n)||(BB s e3).contains n)=(BB s e).contains n:=λn=>by have h9:=hq3 n;have h8:(!b.all.contains v0)=true:=(by rw[h6];rfl);rw[hdr,List.filter_cons_of_pos (p:=λv=>!b.all.contains v) h8] at h9;rw[← h9,L4]
  exact DM ((i+1,(if l2.contains v0 then l2 else l2++[v0]))) (show (Aq tf).length-(i+1)<(Aq tf).length-i by omega) ⟨show i+1≤_ by omega,(Pz hnd2),hq4⟩ lE (λw f hM=>⟨_,hM.less sR sR (λ_ h=>by rcases List.mem_cons.1 h with rfl|h;exact .tail _ (.head _);cases h) (mR [0,1,2])⟩);replace h6:=Gs h6;refine go CI 8 [] (And.intro ⟨oM,oM⟩<|λ_=>?_);have hq4:∀n,((l2.contains n||(((Aq tf).drop (i+1)).filter λv=>!b.all.contains v).contains n)||(BB s e3).contains n)=(BB s e).contains n:=λn=>by have h9:=hq3 n;rw[hdr,List.filter_cons_of_neg (by rw[h6];decide)] at h9;exact h9
  exact DM ((i+1,l2)) (show (Aq tf).length-(i+1)<(Aq tf).length-i by omega) ⟨show i+1≤_ by omega,hnd2,hq4⟩ lE (λw f hM=>⟨_,hM.less sR sR (λ_ h=>by rcases List.mem_cons.1 h with rfl|h;exact .tail _ (.head _);cases h) (mR [0,1,2])⟩);refine go CI 3 [] (λ_=>GR<|go CI 3 [] (λ_=>?_));have hie:(Aq tf).length≤i:=by have:=of_decide_eq_false h5;omega
  have hq2:∀n,(l2.contains n||(BB s e3).contains n)=(BB s e).contains n:=λn=>by have h9:=hq3 n;rw[List.drop_eq_nil_of_le hie] at h9;simpa using h9
  exact go CI 7 [100,6] (y2<|λ_=>DM ((e3,era,l2)) (show e3.length<(b::e3).length from Nat.lt_succ_self _) ⟨hnd2,hq2,λb2 hb2=>heb b2 (.tail _ hb2)⟩ lE (λw f hM=>⟨_,hM.less sR sR nE (mR [2])⟩))
def wT:Eh:=⟨[(100,0,0),(100,1,4)],[(22,3,1)],[],[],[(57,true,4),(100,true,5),(26,true,2),(3,false,1),(22,false,1)],[(100,[.int .i64 0,.int .i64 0,.string ⟨#[]⟩,.slice none 0 0,.slice none 0 0]),(3,[.int .i64 0]),(102,[.string ⟨#[]⟩,.int .i64 0,.int .i64 0,.string ⟨#[]⟩,.slice none 0 0,.slice none 0 0,.pointer none])],[(100,[(0,4),(4,1)]),(102,[(0,1),(1,5),(6,1)])],[]⟩
theorem K5:wT.Ok prog:=⟨(And.intro Ot (And.intro OA tQ)),(And.intro KD tQ),tQ,tQ,(And.intro AI (And.intro mA (And.intro Db (And.intro Dd (And.intro KE tQ))))),(And.intro Y8 (And.intro WL (And.intro Z9 tQ))),(And.intro Yz (And.intro Yv tQ)),tQ⟩
theorem Et(w:World)(f:Fq)(hv:Vl w f)(A:Ad)(hA:A.ok)(s:CS)(hC:Au 65 130 A s w f)(hf:∀b,BE A b→f b=0)(hw:DZ s)(e:Bt)(ea:Option Addr)(heB:Gt e)(hE:AQ w f e ea)(nme:lU)(t:T1)(a:Option Addr)(c:Nat)(hb:t.bnd)(hT:Ah w f t.kids a c)(v:Bool)(ln co:Int) :
  BS prog 21 #[.pointer (some ⟨A.cb,0,none⟩),.pointer ea,S nme,tV t a c,.bool v,.agg #[.int .i64 ln,.int .i64 co]] w (Fv (α:=Bt×Option Addr) (λx=>.pointer x.2) (λx=>GL s e nme t v ln co=.ok x.1∧Gt x.1) (BE A) (λ_=>Au 65 130 A s) (λx=>[λw f=>AQ w f x.1 x.2]) w f) (PanE 48 (BE A) (λer=>GL s e nme t v ln co=.error er) w f):=by
 refine Nl (X:=XC 65 130 A s w f) (H:=[]) (R:=[]) (B:=[]) (Fs:=[λw f=>Ah w f t.kids a c,λw f=>AQ w f e ea]) (f:=f) func21 rfl rfl rfl (Lt hv hC hf ⟨hT,hE,tQ⟩ ⟨Ah.mono,AQ.mono,tQ⟩)<|go K5 21 [1,0] (λb1=>λb2=>y<|λb3=>y<|λ_=>Ba 19 rfl rfl (λh1=>?_) (λh1=>?_));refine go K5 6 [2,1] (y<|y<|λ_=>Eg rfl rfl (eC Gf rfl rfl) (λ_ h=>h) (λw f hM=>Cz w f hM.vl A hA s hM.res hM.mz hw t a c hb hM.f0 ln co) (λ_=>Au.stab) (λ_=>⟨Ah.mono,tQ⟩) (λer w2 f2 he hE=>⟨rfl,er,f2,rfl,(by rw[GL,if_pos h1,he]),hE⟩) ?_);rintro⟨tf,fa,fc⟩ ⟨hfl,hfbd,hfsz⟩;dsimp only at hfl hfbd hfsz ⊢;refine go K5 8 [0] (y<|λ_=>cW (XX:=λ_ _=>False) rfl rfl (eC jF rfl rfl) (λw f hM=>(WT w f hM.vl A hA s hM.res hM.mz hw e ea heB hM.f2).retP) (λ_=>LH.stab) (λ_=>trivial) (λ_ _ _ _ _ h=>h.elim) ?_);rintro⟨mb,ll⟩ ⟨hmn,hlnd,hlq⟩;dsimp only at hmn hlnd hlq ⊢;refine go K5 7 [0] (y<|λ_=>BA rfl rfl (eC Mo rfl rfl) (λw f hM=>Hi w f hM.vl tf fa fc oM hfbd hM.f0) (λx=>⟨B7.mono,tQ⟩) ?_);rintro⟨va,vc⟩ -;have hvl:=Hn tf;refine go K5 5 [] (λ_=>Rd 3 1 ?_);refine HK (α:=Nat×Option Addr×Nat) (λx=>(Aq tf).length-x.1) (λx=>x.1≤(Aq tf).length) (λx=>(E8 0 (.pointer (some ⟨A.cb,0,none⟩)) 1 (.pointer ea) 2 (S nme) 13 (.pointer (some ⟨b3,0,none⟩)) 14 (.map (some mb)) 30 (.slice va (Aq tf).length vc) 31 (.int .i64 ((Aq tf).length:Int)) 32 (.int .i64 (x.1:Int)))) (λx=>⟨BE A,λb=>BE A b∨b=mb,LH 65 130 A s mb ll,w,f⟩) (λx=>[⟨b3,tC tf fa fc++[Value.slice x.2.1 (((Aq tf).take x.1).filter λv=>!ll.contains v).length x.2.2],100,true⟩,⟨b2,[.int .i64 ln,.int .i64 co],26,true⟩,⟨b1,tC t a c,57,true⟩]) (λx=>[⟨3,1,x.2.1,x.2.2,(((Aq tf).take x.1).filter λv=>!ll.contains v).length,(((Aq tf).take x.1).filter λv=>!ll.contains v).map λn=>.int .i64 n⟩]) (λx=>[]) (λx=>[λw f=>B7 w f (Aq tf) va vc,λw f=>Ah w f tf.kids fa fc,λw f=>AQ w f e ea]) (0,none,0) (Nat.zero_le _) lE (λw f hM=>hM.less sR sR nE (mR [0,1,3])) ?_;rintro⟨i,ra,rc⟩ hi;dsimp only at hi ⊢;have hfl2:(((Aq tf).take i).filter λv=>!ll.contains v).length≤i:=Nat.le_trans (List.length_filter_le _ _) (by rw[List.length_take];exact Nat.min_le_left _ _);refine go K5 6 [] (λ_=>Ba 33 rfl rfl (λh2=>?_) (λh2=>?_));refine go K5 6 [] (λ_=>?_);have hil:i<(Aq tf).length:=by have:=of_decide_eq_true h2;omega
 obtain⟨v0,hx⟩:∃v,(Aq tf)[i]?=some v:=⟨_,List.getElem?_eq_getElem hil⟩;refine C6 (α:=Nat×Nat) (λx=>va=some ⟨x.1,x.2,none⟩) (λx=>[⟨x.1,x.2+i*1,[.int .i64 v0]⟩]) (λx=>[]) (λw f hM=>let ⟨b,off,h1,h2⟩:=B7.get hM.f0 hx;⟨(b,off),h1,(oE h2),λ_ h=>by cases h⟩) (λx=>Af.mem tQ) ?_;rintro⟨vb,voff⟩ rfl;refine go K5 10 [100,0] (And.intro oM<|y2<|λ_=>EU rfl rfl (λw f hM=>NZ (K:=Fw) (a:=v0) rfl rfl Nx OJ dB hM.res.2 (LI hlnd) (Wc v0 ll))<|go K5 3 [] (λ_=>Ba 39 rfl rfl (λh3=>?_) (λh3=>?_)));replace h3:=Gg h3;refine go K5 6 [0] (y<|λb4=>λ_=>DR 0 0 rfl rfl M1 rfl rfl rfl rfl rfl rfl rfl rfl (λ_ _=>rfl) oM oM λra2 rc2=>go K5 9 [1] (y<|And.intro ⟨oM,oM⟩<|λ_=>?_));have hfe:(((Aq tf).take (i+1)).filter λv=>!ll.contains v)=(((Aq tf).take i).filter λv=>!ll.contains v)++[v0]:=by rw[D1 hx,List.filter_append];have h9:v0∉ll:=(by simpa using h3);simp[h9]
 exact DM ((i+1,ra2,rc2)) (show (Aq tf).length-(i+1)<(Aq tf).length-i by omega) (show i+1≤_ by omega) lE (λw f hM=>⟨_,by dsimp only;rw[hfe];rw[List.length_append,List.map_append];exact hM.less (.cons _ sR) sR nE (mR [0,1,2])⟩);replace h3:=Gs h3;refine go K5 8 [] (And.intro ⟨oM,oM⟩<|λ_=>?_);have hfe:(((Aq tf).take (i+1)).filter λv=>!ll.contains v)=(((Aq tf).take i).filter λv=>!ll.contains v):=by rw[D1 hx,List.filter_append];have h9:v0∈ll:=(by simpa using h3);simp[h9]
 exact DM ((i+1,ra,rc)) (show (Aq tf).length-(i+1)<(Aq tf).length-i by omega) (show i+1≤_ by omega) lE (λw f hM=>⟨_,by dsimp only;rw[hfe];skip;exact hM.less sR sR nE (mR [0,1,2])⟩);refine go K5 3 [] (λ_=>GR<|go K5 3 [] (λ_=>?_));obtain rfl:i=(Aq tf).length:=by have:=of_decide_eq_false h2;omega
 rw[List.take_length] at *;refine Rb (λw f=>B7 w f ((Aq tf).filter λv=>!ll.contains v) ra rc) B7.mono (λw f hM=>MR hM)<|go K5 10 [0] (y<|λb5=>λ_=>Dn 0 rfl rfl ?_);have hall:((Aq tf).filter λv=>!ll.contains v)=(Aq tf).filter λv=>!(BB s e).contains v:=List.filter_congr λv _=>by rw[hlq v]
 exact Bc (DI rfl rfl) (λw f hM=>⟨(⟨nme,tf,(Aq tf).filter λv=>!ll.contains v⟩::e,some ⟨b5,0,none⟩),f,rfl,⟨(by rw[GL,if_pos h1,hfl,hall]),heB.cons hfbd (show ((Aq tf).filter λv=>!ll.contains v).length≤_ by omega)⟩,hM.exm,hM.res.1,⟨⟨b5,fa,fc,ra,rc,ea,rfl,hM.b0,hM.f2,hM.f0,hM.f3⟩,tQ⟩⟩);exact go K5 14 [0] (y<|λb6=>λ_=>Dn 0 rfl rfl<|Bc (DI rfl rfl) (λw f hM=>⟨(⟨nme,t,[]⟩::e,some ⟨b6,0,none⟩),f,rfl,⟨(by rw[GL,if_neg (by rw[h1];decide)]),heB.cons hb (Nat.zero_le _)⟩,hM.exm,hM.res,⟨⟨b6,a,c,none,0,ea,rfl,hM.b0,hM.f0,⟨Nat.zero_le _,.inl rfl⟩,hM.f1⟩,tQ⟩⟩))
def xQ:Eh:=⟨[(55,0,0),(55,4,5)],[(34,55,6)],[],[],[(55,true,6),(3,false,1),(34,false,1)],[],[],[]⟩
theorem Ez:xQ.Ok prog:=⟨(And.intro IM (And.intro Gi tQ)),(And.intro FF tQ),tQ,tQ,(And.intro Bh (And.intro Dd (And.intro EK tQ))),tQ,tQ,tQ⟩
theorem Rh(n:Nat)(ih:ZY prog 22 n)(w:World)(f:Fq)(hv:Vl w f)(op ln co nm:Int)(tx:lU)(kids:Nd)(na:Option Addr)(nc:Nat)(hm:kids.size<n)(hsz:kids.size≤1000000)(hN:AK w f kids na nc) :
  BC prog 54 #[.agg #[.int .i64 op,.int .i64 ln,.int .i64 co,S tx,.int .i64 nm,.slice na kids.len nc]] w (BW (α:=Unit) (λ_=>.bool (!C0 n op kids)) (λ_=>True) (λ_=>[]) w f):=by
 refine Dl (X:=X0 w f) (H:=[]) (R:=[]) (B:=[]) (Fs:=[λw f=>AK w f kids na nc]) (f:=f) func54 rfl rfl rfl (C8 hv ⟨hN,tQ⟩ ⟨AK.mono,tQ⟩)<|go Ez 9 [0] (λb1=>y<|λ_=>BA rfl rfl (eC Ul rfl rfl) (λw f hM=>ih w f hM.vl op ln co nm tx kids na nc hm hsz hM.f0) (λx=>trivial) ?_);rintro⟨⟩ -;exact go Ez 5 [] (λ_=>Bc (DI rfl rfl) (λw f hM=>⟨(),f,rfl,tQ,hM.exm,tQ⟩))
theorem R4(n:Nat)(ih:ZY prog 22 n)(w:World)(f:Fq)(hv:Vl w f)(kids:Nd)(na:Option Addr)(nc:Nat)(hm:kids.size≤n)(hsz:kids.size≤1000000)(hN:AK w f kids na nc) :
  BC prog 79 #[.slice na kids.len nc,.func (.func 54) #[] #[]] w (BW (α:=Int) (λx=>.int .i64 x) (λx=>decide (0≤x)=!Vd (C0 n) kids) (λ_=>[]) w f):=by
 have hkl:=Nd.len_le kids;refine Dl (X:=X0 w f) (H:=[]) (R:=[]) (B:=[]) (Fs:=[λw f=>AK w f kids na nc]) (f:=f) func79 rfl rfl rfl (C8 hv ⟨hN,tQ⟩ ⟨AK.mono,tQ⟩)<|go Ez 14 [] (λ_=>?_);refine HK (α:=Nat×Nd) (λx=>x.2.len) (λx=>x.1+x.2.len=kids.len∧Vd (C0 n) kids=Vd (C0 n) x.2∧x.2.size≤kids.size) (λx=>(E4 0 (.slice na kids.len nc) 1 (.func (.func 54) #[] #[]) 7 (.int .i64 (kids.len:Int)) 8 (.int .i64 (x.1:Int)))) (λx=>X0 w f) (λx=>[]) (λx=>[]) (λx=>[]) (λx=>[λw f=>A0 w f na x.1 x.2]) (0,kids) ⟨Nat.zero_add _,rfl,Nat.le_refl _⟩ lE (λw f hM=>hM.more (B':=[]) (F':=[λw f=>A0 w f na 0 kids]) nE (A2.mem ⟨AK.at hM.f0,tQ⟩) (Af.mem ⟨A0.mono,tQ⟩) |>.less sR sR nE (mR [0])) ?_;rintro⟨i,r⟩ ⟨hi,hal,hrs⟩;dsimp only at hi hal hrs ⊢;refine go Ez 6 [] (λ_=>Ba 9 rfl rfl (λh1=>?_) (λh1=>?_));refine go Ez 6 [] (λ_=>?_);have hil:i<kids.len:=by have:=of_decide_eq_true h1;omega
 obtain⟨op2,ln2,co2,tx2,nm2,k2,r,rfl⟩:=Nd.cases1 r oM;have hi2:i+(r.len+1)=kids.len:=hi;refine C6 (α:=Nat×Nat×Option Addr×Nat) (λx=>na=some ⟨x.1,x.2.1,none⟩) (λx=>[⟨x.1,x.2.1+i*6,FI op2 ln2 co2 tx2 nm2 x.2.2.1 k2.len x.2.2.2⟩]) (λx=>[λw f=>AK w f k2 x.2.2.1 x.2.2.2,λw f=>A0 w f na (i+1) r]) (λw f hM=>let ⟨b,off,ka,kc,h1,h2,h3,h4⟩:=A0.head hM.f0;⟨(b,off,ka,kc),h1,(oE h2),A2.mem ⟨h3,h4,tQ⟩⟩) (λx=>Af.mem ⟨AK.mono,A0.mono,tQ⟩) ?_;rintro⟨eb,eo,ka,kc⟩ rfl;refine go Ez 12 [100,0] (And.intro oM<|y2<|λ_=>BA rfl rfl (eC lV rfl rfl) (λw f hM=>Rh n ih w f hM.vl op2 ln2 co2 nm2 tx2 k2 ka kc (by have h9:k2.size+r.size+1≤_:=hrs;omega) (by have h9:k2.size+r.size+1≤_:=hrs;omega) hM.f0) (λx=>trivial) ?_);rintro⟨⟩ -;refine go Ez 2 [] (λ_=>Ba 16 rfl rfl (λh2=>?_) (λh2=>?_));exact go Ez 10 [] (λ_=>fD<|go Ez 2 [] (λ_=>Bc (DI rfl rfl) (λw f hM=>⟨(i:Int),f,rfl,(by rw[hal];show _=!(C0 n op2 k2&&_);rw[Gg h2];simp),hM.exm,tQ⟩)));exact go Ez 8 [] (And.intro ⟨oM,oM⟩<|λ_=>DM ((i+1,r)) (show r.len<(Nd.cons op2 ln2 co2 tx2 nm2 k2 r).len from Nat.lt_succ_self _) ⟨show i+1+r.len=_ by omega,hal.trans (by show (C0 n op2 k2&&Vd (C0 n) r)=_;rw[Gs h2,Bool.true_and]),show r.size≤_ by have h9:(Nd.cons op2 ln2 co2 tx2 nm2 k2 r).size≤_:=hrs;simp only[Nd.size] at h9;omega⟩ lE (λw f hM=>⟨_,hM.less sR sR nE (mR [1])⟩));refine go Ez 3 [] (λ_=>GR<|go Ez 3 [] (λ_=>?_));obtain rfl:r=.nil:=Nd.len0 (by have:=of_decide_eq_false h1;omega);exact go Ez 5 [] (λ_=>Bc (DI rfl rfl) (λw f hM=>⟨-1,f,rfl,(by rw[hal];rfl),hM.exm,tQ⟩))
theorem JY(n:Nat)(ih:ZY prog 22 n)(w:World)(f:Fq)(hv:Vl w f)(kids:Nd)(na:Option Addr)(nc:Nat)(hm:kids.size≤n)(hsz:kids.size≤1000000)(hN:AK w f kids na nc) :
  BC prog 53 #[.slice na kids.len nc,.func (.func 54) #[] #[]] w (BW (α:=Unit) (λ_=>.bool (!Vd (C0 n) kids)) (λ_=>True) (λ_=>[]) w f):=by
 refine Dl (X:=X0 w f) (H:=[]) (R:=[]) (B:=[]) (Fs:=[λw f=>AK w f kids na nc]) (f:=f) func53 rfl rfl rfl (C8 hv ⟨hN,tQ⟩ ⟨AK.mono,tQ⟩)<|go Ez 9 [] (λ_=>BA rfl rfl (eC mL rfl rfl) (λw f hM=>R4 n ih w f hM.vl kids na nc hm hsz hM.f0) (λx=>trivial) ?_);rintro ix hix;exact go Ez 5 [] (λ_=>Bc (DI rfl rfl) (λw f hM=>⟨(),f,(by rw[← hix]),tQ,hM.exm,tQ⟩))
theorem T9(n:Nat)(ih:ZY prog 22 n)(w:World)(f:Fq)(hv:Vl w f)(op ln co nm:Int)(tx:lU)(kids:Nd)(na:Option Addr)(nc:Nat)(hm:kids.size<n+1)(hsz:kids.size≤1000000)(hN:AK w f kids na nc) :
  BC prog 22 #[.agg #[.int .i64 op,.int .i64 ln,.int .i64 co,S tx,.int .i64 nm,.slice na kids.len nc]] w (BW (α:=Unit) (λ_=>.bool (C0 (n+1) op kids)) (λ_=>True) (λ_=>[]) w f):=by
 refine Dl (X:=X0 w f) (H:=[]) (R:=[]) (B:=[]) (Fs:=[λw f=>AK w f kids na nc]) (f:=f) func22 rfl rfl rfl (C8 hv ⟨hN,tQ⟩ ⟨AK.mono,tQ⟩)<|go Ez 21 [0] (λb1=>y<|λ_=>Ba 5 rfl rfl (λh1=>?_) (λh1=>?_));exact go Ez 12 [] (λ_=>Bc (DI rfl rfl) (λw f hM=>⟨(),f,(by simp[C0,h1]),tQ,hM.exm,tQ⟩));refine go Ez 7 [] (λ_=>Ba 5 rfl rfl (λh2=>?_) (λh2=>?_));exact go Ez 12 [] (λ_=>Bc (DI rfl rfl) (λw f hM=>⟨(),f,(by simp[C0,h1,h2]),tQ,hM.exm,tQ⟩));refine go Ez 7 [] (λ_=>Ba 5 rfl rfl (λh3=>?_) (λh3=>?_));exact go Ez 12 [] (λ_=>Bc (DI rfl rfl) (λw f hM=>⟨(),f,(by simp[C0,h1,h2,h3]),tQ,hM.exm,tQ⟩));refine go Ez 7 [] (λ_=>Ba 5 rfl rfl (λh4=>?_) (λh4=>?_));exact go Ez 12 [] (λ_=>Bc (DI rfl rfl) (λw f hM=>⟨(),f,(by simp[C0,h1,h2,h3,h4]),tQ,hM.exm,tQ⟩));refine go Ez 7 [] (λ_=>Ba 5 rfl rfl (λh5=>?_) (λh5=>?_));exact go Ez 12 [] (λ_=>Bc (DI rfl rfl) (λw f hM=>⟨(),f,(by simp[C0,h1,h2,h3,h4,h5]),tQ,hM.exm,tQ⟩));refine go Ez 6 [] (λ_=>Ba 5 rfl rfl (λh6=>?_) (λh6=>?_));exact go Ez 9 [] (λ_=>Bc (DI rfl rfl) (λw f hM=>⟨(),f,(by simp[C0,h1,h2,h3,h4,h5,h6]),tQ,hM.exm,tQ⟩));refine go Ez 8 [] (λ_=>Ba 12 rfl rfl (λh7=>?_) (λh7=>?_));refine go Ez 8 [0] (y<|λ_=>BA rfl rfl (eC XO rfl rfl) (λw f hM=>JY n ih w f hM.vl kids na nc oM hsz hM.f0) (λx=>trivial) ?_);rintro⟨⟩ -;exact go Ez 7 [] (λ_=>Bc (DI rfl rfl) (λw f hM=>⟨(),f,(by simp[C0,h1,h2,h3,h4,h5,h6,h7]),tQ,hM.exm,tQ⟩));refine go Ez 6 [] (λ_=>Ba 12 rfl rfl (λh8=>?_) (λh8=>?_));refine go Ez 5 [0] (y<|λ_=>BA rfl rfl (eC XO rfl rfl) (λw f hM=>JY n ih w f hM.vl kids na nc oM hsz hM.f0) (λx=>trivial) ?_);rintro⟨⟩ -;exact go Ez 7 [] (λ_=>Bc (DI rfl rfl) (λw f hM=>⟨(),f,(by simp[C0,h1,h2,h3,h4,h5,h6,h7,h8]),tQ,hM.exm,tQ⟩));exact go Ez 10 [] (λ_=>Bc (DI rfl rfl) (λw f hM=>⟨(),f,(by simp[C0,h1,h2,h3,h4,h5,h6,h7,h8]),tQ,hM.exm,tQ⟩))
theorem KP:∀n,ZY prog 22 n
 |0=>λ_ _ _ _ _ _ _ _ _ _ _ h=>absurd h (Nat.not_lt_zero _)
 |n+1=>λw f hv op ln co nm tx kids na nc hm hsz hN=>T9 n (KP n) w f hv op ln co nm tx kids na nc hm hsz hN
def xO:Eh:=⟨[(55,0,0),(65,0,0),(55,1,1),(55,2,3),(55,4,5),(57,3,3)],[(34,55,6),(53,57,4)],[],[],[(3,false,1),(60,false,1),(57,true,4),(26,true,2),(9,false,1),(55,true,6),(34,false,1),(53,false,1)],[(57,[.int .i64 0,.int .i64 0,.string ⟨#[]⟩,.slice none 0 0]),(55,[.int .i64 0,.int .i64 0,.int .i64 0,.string ⟨#[]⟩,.int .i64 0,.slice none 0 0])],[],[]⟩
theorem Cw:xO.Ok prog:=⟨(And.intro IM (And.intro Ky (And.intro GS (And.intro GW (And.intro Gi (And.intro FH tQ)))))),(And.intro FF (And.intro DT tQ)),tQ,tQ,(And.intro Dd (And.intro HU (And.intro AI (And.intro Db (And.intro GX (And.intro Bh (And.intro EK (And.intro Hs tQ)))))))),(And.intro DN (And.intro GJ tQ)),tQ,tQ⟩
theorem Dr(w:World)(f:Fq)(hv:Vl w f)(A:Ad)(hA:A.ok)(s:CS)(hC:Au 65 130 A s w f)(hf:∀b,BE A b→f b=0)(hw:DZ s)(t u:T1)(a:Option Addr)(c:Nat)(a2:Option Addr)(c2:Nat)(hbt:t.bnd)(hbu:u.bnd)(hT:Ah w f t.kids a c)(hU:Ah w f u.kids a2 c2)(ln co:Int) :
  BS prog 18 #[.pointer (some ⟨A.cb,0,none⟩),tV t a c,tV u a2 c2,.agg #[.int .i64 ln,.int .i64 co]] w (Fv (α:=CS) (λ_=>.tuple #[]) (λx=>FJ s t u ln co=.ok x∧DZ x∧x.fresh=s.fresh) (BE A) (λx=>Au 65 130 A x) (λ_=>[]) w f) (PanE 48 (BE A) (λer=>FJ s t u ln co=.error er) w f) :=
 (YN w f hv A hA s hC hf hw t u a c a2 c2 hbt hbu hT hU ln co).mono (λ_ _ ⟨x,f2,h1,h2,h3,h4,h5⟩=>⟨{s with sol:=x},f2,h1,⟨h2.1,h2.2,rfl⟩,h3,h4,h5⟩) λ_ _ h=>h
theorem Fj(w:World)(f:Fq)(hv:Vl w f)(A:Ad)(hA:A.ok)(s:CS)(hw:DZ s)(pr:Int)(hC:Au 65 130 A s w f)(hS:BQ 130 A.sb A.mb s.sol s.fresh pr w f)(hf:∀b,BE A b→f b=0)(hb:s.fresh≤900000000000) :
  BC prog 55 #[.pointer (some ⟨A.sb,0,none⟩)] w (Fv (α:=CS) (λ_=>tV (AB s).1 none 0) (λx=>x=(AB s).2∧DZ x∧x.fresh=s.fresh+1) (BE A) (λx=>Au 65 130 A x) (λ_=>[]) w f) :=
 (NN w f hv A.sb A.mb _ _ pr hS ⟨hf _ (.inr (.inl rfl)),hf _ (.inr (.inr (.inl rfl)))⟩ hA.sm.1 (by have:=hw.fr;constructor <;> omega)).mono λv w2 ⟨x,f2,h1,h2,h3,h4,h5⟩=>⟨(AB s).2,f2,h1,⟨rfl,hw.fresh (by have:=hw.fr;omega),rfl⟩,h3.mono MJ.c,hC.solved hA hv (λb hb=>hf b (MJ.c b hb)) h3 h4,h5⟩
set_option maxHeartbeats 1000000 in
theorem WY(n:Nat)(ih:rR prog 102 48 65 130 n)(w:World)(f:Fq)(hv:Vl w f)(A:Ad)(hA:A.ok)(s:CS)(hC:Au 65 130 A s w f)(hf:∀b,BE A b→f b=0)(hw:DZ s)(op ln co nm:Int)(tx:lU)(kids:Nd)(na:Option Addr)(nc:Nat)(e:Bt)(ea:Option Addr)(hm:kids.size<n+1)(hsz:kids.size≤200000)(hN:AK w f kids na nc)(heB:Gt e)(hE:AQ w f e ea)(hfb:s.fresh+200001*(kids.size+1)≤800000000000) :
  BS prog 102 #[.pointer (some ⟨A.cb,0,none⟩),.agg #[.int .i64 op,.int .i64 ln,.int .i64 co,S tx,.int .i64 nm,.slice na kids.len nc],.pointer ea] w (Fv (α:=(T1×Option Addr×Nat)×(Bt×Option Addr)×CS) (λx=>.tuple #[tV x.1.1 x.1.2.1 x.1.2.2,.pointer x.2.1.2]) (λx=>CF (n+1) s e op ln co tx nm kids=.ok (x.1.1,x.2.1.1,x.2.2)∧x.1.1.bnd∧Gt x.2.1.1∧DZ x.2.2∧x.2.2.fresh≤s.fresh+200001*(kids.size+1)) (BE A) (λx=>Au 65 130 A x.2.2) (λx=>[λw f=>Ah w f x.1.1.kids x.1.2.1 x.1.2.2,λw f=>AQ w f x.2.1.1 x.2.1.2]) w f) (PanE 48 (BE A) (λer=>CF (n+1) s e op ln co tx nm kids=.error er) w f):=by
 have hkl:=Nd.len_le kids;have hfr0:=hw.fr;refine Nl (X:=XC 65 130 A s w f) (H:=[]) (R:=[]) (B:=[]) (Fs:=[λw f=>AK w f kids na nc,λw f=>AQ w f e ea]) (f:=f) func102 rfl rfl rfl (Lt hv hC hf ⟨hN,hE,tQ⟩ ⟨AK.mono,AQ.mono,tQ⟩)<|go Cw 26 [2] (λb1=>λb2=>λb3=>y<|λ_=>Ba 19 rfl rfl (λh1=>?_) (λh1=>?_));refine go Cw 5 [] (λ_=>EU rfl rfl (λw f hM=>Al rfl HU hM.res.blk rfl)<|aM λpr=>OM (α:=CS) (val:=λ_=>tV (AB s).1 none 0) (q:=λx=>x=(AB s).2∧DZ x∧x.fresh=s.fresh+1) (I':=λx=>Au 65 130 A x) (F':=λ_=>[]) (XX:=λ_ _=>False) rfl rfl (eC Lg rfl rfl) (λw f hM=>(Fj w f hM.vl A hA s hw pr hM.res.1 hM.res.2 hM.mz oM).retP) (λ_=>Au.stab) (λ_=>trivial) (λ_ _ _ _ _ h=>h.elim) ?_);rintro s2 ⟨hs2,hw2,hw2f⟩;refine go Cw 5 [0] (y<|λ_=>?_);have hbp:DF (CF n) s e op ln co tx kids=.ok ((AB s).1,e,s2):=by simp only[DF,h1,Bool.false_eq_true,if_false,if_true];rw[hs2]
 refine go Cw 5 [0,2] (y<|y<|λ_=>Eg rfl rfl (eC Gf rfl rfl) (λ_ h=>h) (λw f hM=>Cz w f hM.vl A hA s2 hM.res hM.mz hw2 (AB s).1 none 0 (B9 _) (Ah.nil _ _ _ _) ln co) (λ_=>Au.stab) (λ_=>⟨Ah.mono,tQ⟩) (λer w2 f2 he hE=>⟨rfl,er,f2,rfl,(by rw[CF,hbp];simp only;rw[he]),hE⟩) ?_);rintro⟨tf,fa9,fc9⟩ ⟨hfl,-,-⟩;dsimp only at hfl ⊢;exact go Cw 11 [0,1] (y<|y<|λ_=>Bc (λw f hM=>Cu rfl (Ac rfl AI hM.k1 rfl) (Ak rfl)) (λw f hM=>⟨(((AB s).1,none,0),(e,ea),s2),f,rfl,⟨(by rw[CF,hbp];simp only;rw[hfl]),(B9 _),heB,hw2,by dsimp only;rw[hw2f];omega⟩,hM.exm,hM.res,⟨Ah.nil _ _ _ _,hM.f2,tQ⟩⟩));refine go Cw 7 [] (λ_=>Ba 26 rfl rfl (λh2=>?_) (λh2=>?_));refine go Cw 6 [] (λ_=>EU rfl rfl (λw f hM=>Al rfl HU hM.res.blk rfl)<|aM λpr=>OM (α:=CS) (val:=λ_=>tV (AB s).1 none 0) (q:=λx=>x=(AB s).2∧DZ x∧x.fresh=s.fresh+1) (I':=λx=>Au 65 130 A x) (F':=λ_=>[]) (XX:=λ_ _=>False) rfl rfl (eC Lg rfl rfl) (λw f hM=>(Fj w f hM.vl A hA s hw pr hM.res.1 hM.res.2 hM.mz oM).retP) (λ_=>Au.stab) (λ_=>trivial) (λ_ _ _ _ _ h=>h.elim) ?_);rintro s2 ⟨hs2,hw2,hw2f⟩;refine go Cw 11 [0,2,0,2] (y<|y<|y<|y<|λ_=>Eg rfl rfl (eC IW rfl rfl) (λ_ h=>h) (λw f hM=>Et w f hM.vl A hA s2 hM.res hM.mz hw2 e ea heB hM.f1 tx (AB s).1 none 0 (B9 _) (Ah.nil _ _ _ _) false ln co) (λ_=>Au.stab) (λ_=>⟨AQ.mono,tQ⟩) (λer w2 f2 he hE=>⟨rfl,er,f2,rfl,(by cases he),hE⟩) ?_);rintro⟨e2,ea2⟩ ⟨he2,heB2⟩;dsimp only at he2 heB2 ⊢;refine go Cw 5 [] (λ_=>?_);have hbp:DF (CF n) s e op ln co tx kids=.ok ((AB s).1,e2,s2):=by simp only[DF,h1,h2,Bool.false_eq_true,if_false,if_true];rw[hs2];cases he2;rfl
 refine go Cw 5 [0,2] (y<|y<|λ_=>Eg rfl rfl (eC Gf rfl rfl) (λ_ h=>h) (λw f hM=>Cz w f hM.vl A hA s2 hM.res hM.mz hw2 (AB s).1 none 0 (B9 _) (Ah.nil _ _ _ _) ln co) (λ_=>Au.stab) (λ_=>⟨Ah.mono,tQ⟩) (λer w2 f2 he hE=>⟨rfl,er,f2,rfl,(by rw[CF,hbp];simp only;rw[he]),hE⟩) ?_);rintro⟨tf,fa9,fc9⟩ ⟨hfl,-,-⟩;dsimp only at hfl ⊢;exact go Cw 11 [0,1] (y<|y<|λ_=>Bc (λw f hM=>Cu rfl (Ac rfl AI hM.k1 rfl) (Ak rfl)) (λw f hM=>⟨(((AB s).1,none,0),(e2,ea2),s2),f,rfl,⟨(by rw[CF,hbp];simp only;rw[hfl]),(B9 _),heB2,hw2,by dsimp only;rw[hw2f];omega⟩,hM.exm,hM.res,⟨Ah.nil _ _ _ _,hM.f1,tQ⟩⟩));refine go Cw 7 [] (λ_=>Ba 41 rfl rfl (λh3=>?_) (λh3=>?_));refine go Cw 2 [] (λ_=>BA rfl rfl (eC B6 rfl rfl) (λw f hM=>Bz w f hM.vl [105,110,116]) (λx=>trivial) ?_);rintro⟨⟩ -;refine go Cw 5 [0] (y<|λ_=>?_);have hbp:DF (CF n) s e op ln co tx kids=.ok ((c0 bI),e,s):=by simp only[DF,h1,h2,h3,Bool.false_eq_true,if_false,if_true];skip
 refine go Cw 5 [0,2] (y<|y<|λ_=>Eg rfl rfl (eC Gf rfl rfl) (λ_ h=>h) (λw f hM=>Cz w f hM.vl A hA s hM.res hM.mz hw (c0 bI) none 0 (Dj dC) (Ah.nil _ _ _ _) ln co) (λ_=>Au.stab) (λ_=>⟨Ah.mono,tQ⟩) (λer w2 f2 he hE=>⟨rfl,er,f2,rfl,(by rw[CF,hbp];simp only;rw[he]),hE⟩) ?_);rintro⟨tf,fa9,fc9⟩ ⟨hfl,-,-⟩;dsimp only at hfl ⊢;exact go Cw 11 [0,1] (y<|y<|λ_=>Bc (λw f hM=>Cu rfl (Ac rfl AI hM.k1 rfl) (Ak rfl)) (λw f hM=>⟨(((c0 bI),none,0),(e,ea),s),f,rfl,⟨(by rw[CF,hbp];simp only;rw[hfl]),(Dj dC),heB,hw,by dsimp only;omega⟩,hM.exm,hM.res,⟨Ah.nil _ _ _ _,hM.f2,tQ⟩⟩));refine go Cw 7 [] (λ_=>Ba 44 rfl rfl (λh4=>?_) (λh4=>?_));refine go Cw 2 [] (λ_=>BA rfl rfl (eC B6 rfl rfl) (λw f hM=>Bz w f hM.vl [115,116,114,105,110,103]) (λx=>trivial) ?_);rintro⟨⟩ -;refine go Cw 5 [0] (y<|λ_=>?_);have hbp:DF (CF n) s e op ln co tx kids=.ok ((c0 bS),e,s):=by simp only[DF,h1,h2,h3,h4,Bool.false_eq_true,if_false,if_true];skip
 refine go Cw 5 [0,2] (y<|y<|λ_=>Eg rfl rfl (eC Gf rfl rfl) (λ_ h=>h) (λw f hM=>Cz w f hM.vl A hA s hM.res hM.mz hw (c0 bS) none 0 (Dj dC) (Ah.nil _ _ _ _) ln co) (λ_=>Au.stab) (λ_=>⟨Ah.mono,tQ⟩) (λer w2 f2 he hE=>⟨rfl,er,f2,rfl,(by rw[CF,hbp];simp only;rw[he]),hE⟩) ?_);rintro⟨tf,fa9,fc9⟩ ⟨hfl,-,-⟩;dsimp only at hfl ⊢;exact go Cw 11 [0,1] (y<|y<|λ_=>Bc (λw f hM=>Cu rfl (Ac rfl AI hM.k1 rfl) (Ak rfl)) (λw f hM=>⟨(((c0 bS),none,0),(e,ea),s),f,rfl,⟨(by rw[CF,hbp];simp only;rw[hfl]),(Dj dC),heB,hw,by dsimp only;omega⟩,hM.exm,hM.res,⟨Ah.nil _ _ _ _,hM.f2,tQ⟩⟩));refine go Cw 7 [] (λ_=>Ba 47 rfl rfl (λh5=>?_) (λh5=>?_));refine go Cw 2 [] (λ_=>BA rfl rfl (eC B6 rfl rfl) (λw f hM=>Bz w f hM.vl [117,110,105,116]) (λx=>trivial) ?_);rintro⟨⟩ -;refine go Cw 5 [0] (y<|λ_=>?_);have hbp:DF (CF n) s e op ln co tx kids=.ok ((c0 bU),e,s):=by simp only[DF,h1,h2,h3,h4,h5,Bool.false_eq_true,if_false,if_true];skip
 refine go Cw 5 [0,2] (y<|y<|λ_=>Eg rfl rfl (eC Gf rfl rfl) (λ_ h=>h) (λw f hM=>Cz w f hM.vl A hA s hM.res hM.mz hw (c0 bU) none 0 (Dj dC) (Ah.nil _ _ _ _) ln co) (λ_=>Au.stab) (λ_=>⟨Ah.mono,tQ⟩) (λer w2 f2 he hE=>⟨rfl,er,f2,rfl,(by rw[CF,hbp];simp only;rw[he]),hE⟩) ?_);rintro⟨tf,fa9,fc9⟩ ⟨hfl,-,-⟩;dsimp only at hfl ⊢;exact go Cw 11 [0,1] (y<|y<|λ_=>Bc (λw f hM=>Cu rfl (Ac rfl AI hM.k1 rfl) (Ak rfl)) (λw f hM=>⟨(((c0 bU),none,0),(e,ea),s),f,rfl,⟨(by rw[CF,hbp];simp only;rw[hfl]),(Dj dC),heB,hw,by dsimp only;omega⟩,hM.exm,hM.res,⟨Ah.nil _ _ _ _,hM.f2,tQ⟩⟩));refine go Cw 7 [] (λ_=>Ba 50 rfl rfl (λh6=>?_) (λh6=>?_));refine go Cw 5 [2] (y<|λ_=>Eg rfl rfl (eC Yc rfl rfl) (λ_ h=>h) (λw f hM=>OU w f hM.vl A hA s hM.res hM.mz hw op ln co nm tx kids na nc oM) (λ_=>Au.stab) (λ_=>⟨Ah.mono,Ah.mono,tQ⟩) (λer w2 f2 he hE=>⟨rfl,er,f2,rfl,(by rw[CF,show DF (CF n) s e op ln co tx kids=.error er by simp only[DF,h1,h2,h3,h4,h5,h6,Bool.false_eq_true,if_false,if_true];rw[he]]),hE⟩) ?_);rintro⟨⟨args,aa,ac⟩,⟨out,oa,oc⟩,s1⟩ ⟨hmk,hal,hab,hob,hw1,hfr1⟩;dsimp only at hmk hal hab hob hw1 hfr1 ⊢;refine go Cw 18 [0,3] (λb4=>y<|y<|λ_=>?_);refine HK (α:=Nat×Nd×Ty×Bt×Option Addr×CS) (λx=>x.2.1.len) (λx=>x.1+x.2.1.len=kids.len∧x.2.2.1.len=x.2.1.len∧HV (CF n) s1 e args kids=HV (CF n) x.2.2.2.2.2 x.2.2.2.1 x.2.2.1 x.2.1∧x.2.2.1.bnd∧Gt x.2.2.2.1∧DZ x.2.2.2.2.2∧x.2.1.size≤kids.size∧x.2.2.2.2.2.fresh+200001*x.2.1.size≤s.fresh+200000+200001*kids.size) (λx=>(xU 0 (.pointer (some ⟨A.cb,0,none⟩)) 2 (.pointer x.2.2.2.2.1) 4 (.pointer (some ⟨b1,0,none⟩)) 6 (.pointer (some ⟨b2,0,none⟩)) 8 (.pointer (some ⟨b3,0,none⟩)) 9 (.slice aa args.len ac) 10 (.pointer (some ⟨b4,0,none⟩)) 59 (.slice na kids.len nc) 60 (.int .i64 (kids.len:Int)) 61 (.int .i64 (x.1:Int)))) (λx=>⟨BE A,BE A,Au 65 130 A x.2.2.2.2.2,w,f⟩) (λx=>[⟨b4,tC out oa oc,57,true⟩,⟨b3,[.int .i64 0,.int .i64 0,.string ⟨#[]⟩,.slice none 0 0],57,true⟩,⟨b2,[.int .i64 0,.int .i64 0,.string ⟨#[]⟩,.slice none 0 0],57,true⟩,⟨b1,[.int .i64 op,.int .i64 ln,.int .i64 co,S tx,.int .i64 nm,.slice na kids.len nc],55,true⟩]) (λx=>[]) (λx=>[]) (λx=>[λw f=>A0 w f na x.1 x.2.1,λw f=>AZ w f aa x.1 x.2.2.1,λw f=>AQ w f x.2.2.2.1 x.2.2.2.2.1,λw f=>Ah w f out.kids oa oc]) (0,kids,args,e,ea,s1) ⟨Nat.zero_add _,hal,rfl,hab,heB,hw1,Nat.le_refl _,by dsimp only;omega⟩ lE (λw f hM=>hM.more (B':=[]) (F':=[λw f=>A0 w f na 0 kids,λw f=>AZ w f aa 0 args]) nE (A2.mem ⟨AK.at hM.f2,Ah.at hM.f0,tQ⟩) (Af.mem ⟨A0.mono,AZ.mono,tQ⟩) |>.less sR sR nE (mR [0,1,5,3])) ?_;rintro⟨i,r,ar,e4,ea4,s4⟩ ⟨hi,harl,hpc,harb,heB4,hw4,hrs,hfr4⟩;dsimp only at hi harl hpc harb heB4 hw4 hrs hfr4 ⊢;refine go Cw 6 [] (λ_=>Ba 62 rfl rfl (λh7=>?_) (λh7=>?_));refine go Cw 6 [] (λ_=>?_);have hil:i<kids.len:=by have:=of_decide_eq_true h7;omega
 obtain⟨op2,ln2,co2,tx2,nm2,k2,r,rfl⟩:=Nd.cases1 r oM;have hi2:i+(r.len+1)=kids.len:=hi;have harl2:ar.len=r.len+1:=harl;obtain⟨t2,ar,rfl⟩:=Ty.cases1 ar oM;rw[T1.len_cons] at harl2;have hrs2:k2.size+r.size+1≤kids.size:=hrs;have hfr5:s4.fresh+200001*((k2.size+r.size+1:Nat):Int)≤s.fresh+200000+200001*kids.size:=hfr4;refine C6 (α:=Nat×Nat×Option Addr×Nat) (λx=>na=some ⟨x.1,x.2.1,none⟩) (λx=>[⟨x.1,x.2.1+i*6,FI op2 ln2 co2 tx2 nm2 x.2.2.1 k2.len x.2.2.2⟩]) (λx=>[λw f=>AK w f k2 x.2.2.1 x.2.2.2,λw f=>A0 w f na (i+1) r]) (λw f hM=>let ⟨b,off,ka,kc,h1,h2,h3,h4⟩:=A0.head hM.f0;⟨(b,off,ka,kc),h1,(oE h2),A2.mem ⟨h3,h4,tQ⟩⟩) (λx=>Af.mem ⟨AK.mono,A0.mono,tQ⟩) ?_;rintro⟨eb,eo,ka,kc⟩ rfl;refine C6 (α:=Nat×Nat×Option Addr×Nat) (λx=>aa=some ⟨x.1,x.2.1,none⟩) (λx=>[⟨x.1,x.2.1+i*4,tC t2 x.2.2.1 x.2.2.2⟩]) (λx=>[λw f=>Ah w f t2.kids x.2.2.1 x.2.2.2,λw f=>AZ w f aa (i+1) ar]) (λw f hM=>let ⟨b,off,ka,kc,h1,h2,h3,h4⟩:=AZ.head hM.f3;⟨(b,off,ka,kc),h1,(oE h2),A2.mem ⟨h3,h4,tQ⟩⟩) (λx=>Af.mem ⟨Ah.mono,AZ.mono,tQ⟩) ?_;rintro⟨ab,ao,ka2,kc2⟩ rfl;refine go Cw 19 [101,0,0,1] (And.intro oM<|y2<|λb5=>y<|λb6=>y<|λ_=>Eg rfl rfl (eC Qp rfl rfl) (λ_ h=>h) (λw f hM=>ih w f hM.vl A hA s4 hM.res hM.mz hw4 op2 ln2 co2 nm2 tx2 k2 ka kc e4 ea4 oM oM hM.f2 heB4 hM.f6 oM) (λ_=>Au.stab) (λ_=>⟨Ah.mono,AQ.mono,tQ⟩) (λer w2 f2 he hE=>⟨rfl,er,f2,rfl,(by rw[CF,show DF (CF n) s e op ln co tx kids=.error er by simp only[DF,h1,h2,h3,h4,h5,h6,Bool.false_eq_true,if_false,if_true];rw[hmk];simp only;rw[hpc,show HV (CF n) s4 e4 (t2.cons ar) (.cons op2 ln2 co2 tx2 nm2 k2 r)=.error er by rw[HV,he]]]),hE⟩) ?_);rintro⟨⟨q5,qa,qc⟩,⟨e5,ea5⟩,s5⟩ ⟨hp5,hqb,heB5,hw5,hfr6⟩;dsimp only at hp5 hqb heB5 hw5 hfr6 ⊢;refine go Cw 7 [0] (y<|λ_=>Dp [0,1,2,3,4,5] Ap (rd [0,1,2,3,4,5,6,7] (.br 8 .fin .fin)) rfl kR<|AA Cw 8 [100,0,0,1] (And.intro oM<|y2<|y<|y<|λ_=>Ag rfl ?_ Aj));refine Eg rfl rfl (eC G8 rfl rfl) (λ_ h=>h) (λw f hM=>Dr w f hM.vl A hA s5 hM.res hM.mz hw5 t2 q5 ka2 kc2 qa qc (T1.bnd_cons.1 harb).1 hqb hM.f2 hM.f0 ln2 co2) (λ_=>Au.stab) (λ_=>trivial) (λer w2 f2 he hE=>⟨rfl,er,f2,rfl,(by rw[CF,show DF (CF n) s e op ln co tx kids=.error er by simp only[DF,h1,h2,h3,h4,h5,h6,Bool.false_eq_true,if_false,if_true];rw[hmk];simp only;rw[hpc,show HV (CF n) s4 e4 (t2.cons ar) (.cons op2 ln2 co2 tx2 nm2 k2 r)=.error er by rw[HV,hp5];simp only;rw[T1.hd_cons,he]]]),hE⟩) ?_;rintro s6 ⟨hh6,hw6,hf6⟩;exact go Cw 1 [] (λ_=>Ax [0,1,2,3,4,5] rfl<|B4<|go Cw 6 [] (And.intro ⟨oM,oM⟩<|λ_=>DM ((i+1,r,ar,e5,ea5,s6)) (show r.len<(Nd.cons op2 ln2 co2 tx2 nm2 k2 r).len from Nat.lt_succ_self _) ⟨show i+1+r.len=_ by omega,show ar.len=r.len by omega,hpc.trans (US hp5 hh6),(T1.bnd_cons.1 harb).2,heB5,hw6,show r.size≤_ by omega,show s6.fresh+200001*(r.size:Int)≤_ by omega⟩ lE (λw f hM=>⟨_,hM.less (.cons _ (.cons _ sR)) sR nE (mR [5,3,1,9])⟩)));refine go Cw 3 [] (λ_=>GR<|go Cw 2 [] (λ_=>?_))
 obtain rfl:r=.nil:=Nd.len0 (by have:=of_decide_eq_false h7;omega);have hpc2:HV (CF n) s1 e args kids=.ok (e4,s4):=hpc;have hfr5:s4.fresh≤s.fresh+200000+200001*kids.size:=by have h9:s4.fresh+200001*((0:Nat):Int)≤_:=hfr4;omega
 refine go Cw 7 [0,1] (y<|y<|λ_=>?_);have hbp:DF (CF n) s e op ln co tx kids=.ok (out,e4,s4):=by simp only[DF,h1,h2,h3,h4,h5,h6,Bool.false_eq_true,if_false,if_true];rw[hmk];simp only;rw[hpc2]
 refine go Cw 5 [1,3] (y<|y<|λ_=>Eg rfl rfl (eC Gf rfl rfl) (λ_ h=>h) (λw f hM=>Cz w f hM.vl A hA s4 hM.res hM.mz hw4 out oa oc hob hM.f3 ln co) (λ_=>Au.stab) (λ_=>⟨Ah.mono,tQ⟩) (λer w2 f2 he hE=>⟨rfl,er,f2,rfl,(by rw[CF,hbp];simp only;rw[he]),hE⟩) ?_);rintro⟨tf,fa9,fc9⟩ ⟨hfl,-,-⟩;dsimp only at hfl ⊢;exact go Cw 11 [1,2] (y<|y<|λ_=>Bc (λw f hM=>Cu rfl (Ac rfl AI hM.k2 rfl) (Ak rfl)) (λw f hM=>⟨((out,oa,oc),(e4,ea4),s4),f,rfl,⟨(by rw[CF,hbp];simp only;rw[hfl]),hob,heB4,hw4,by dsimp only;omega⟩,hM.exm,hM.res,⟨hM.f4,hM.f3,tQ⟩⟩));refine go Cw 7 [] (λ_=>Ba 84 rfl rfl (λh8=>?_) (λh8=>?_));refine go Cw 3 [] (λ_=>BA rfl rfl (eC B6 rfl rfl) (λw f hM=>Bz w f hM.vl [116,117,112,108,101]) (λx=>trivial) ?_);rintro⟨⟩ -;refine go Cw 12 [0,2] (y<|y<|λ_=>Rd 57 4 ?_);refine HK (α:=Nat×Nd×Ty×List Value×Option Addr×Nat×Bt×Option Addr×CS) (λx=>x.2.1.len) (λx=>x.1+x.2.1.len=kids.len∧x.2.2.1.len=x.1∧GK (CF n) s e kids=(match GK (CF n) x.2.2.2.2.2.2.2.2 x.2.2.2.2.2.2.1 x.2.1 with|.error x=>.error x|.ok (l,e3,s3)=>.ok (x.2.2.1.app l,e3,s3))∧x.2.2.1.bnd∧Gt x.2.2.2.2.2.2.1∧DZ x.2.2.2.2.2.2.2.2∧x.2.1.size≤kids.size∧x.2.2.2.2.2.2.2.2.fresh+200001*x.2.1.size≤s.fresh+200001*kids.size) (λx=>(E8 0 (.pointer (some ⟨A.cb,0,none⟩)) 2 (.pointer x.2.2.2.2.2.2.2.1) 4 (.pointer (some ⟨b1,0,none⟩)) 6 (.pointer (some ⟨b2,0,none⟩)) 8 (.pointer (some ⟨b3,0,none⟩)) 88 (.slice na kids.len nc) 89 (.int .i64 (kids.len:Int)) 90 (.int .i64 (x.1:Int)))) (λx=>⟨BE A,BE A,Au 65 130 A x.2.2.2.2.2.2.2.2,w,f⟩) (λx=>[⟨b3,[.int .i64 1,.int .i64 0,S SI,.slice x.2.2.2.2.1 x.1 x.2.2.2.2.2.1],57,true⟩,⟨b2,[.int .i64 0,.int .i64 0,.string ⟨#[]⟩,.slice none 0 0],57,true⟩,⟨b1,[.int .i64 op,.int .i64 ln,.int .i64 co,S tx,.int .i64 nm,.slice na kids.len nc],55,true⟩]) (λx=>[⟨57,4,x.2.2.2.2.1,x.2.2.2.2.2.1,x.1,x.2.2.2.1⟩]) (λx=>[]) (λx=>[λw f=>A0 w f na x.1 x.2.1,λw f=>Bo w f x.2.2.1 x.2.2.2.1,λw f=>AQ w f x.2.2.2.2.2.2.1 x.2.2.2.2.2.2.2.1]) (0,kids,.nil,[],none,0,e,ea,s) ⟨Nat.zero_add _,rfl,Rm,tQ,heB,hw,Nat.le_refl _,by dsimp only;omega⟩ lE (λw f hM=>hM.more (B':=[]) (F':=[λw f=>A0 w f na 0 kids,λw f=>Bo w f .nil []]) nE (A2.mem ⟨AK.at hM.f0,rfl,tQ⟩) (Af.mem ⟨A0.mono,Bo.mono,tQ⟩) |>.less sR sR nE (mR [0,1,3])) ?_;rintro⟨i,r,dn,xs,ra,rc,e4,ea4,s4⟩ ⟨hi,hdl,hpt,hdb,heB4,hw4,hrs,hfr4⟩;dsimp only at hi hdl hpt hdb heB4 hw4 hrs hfr4 ⊢;refine go Cw 6 [] (λ_=>Ba 91 rfl rfl (λh9=>?_) (λh9=>?_));refine go Cw 6 [] (λ_=>?_);have hil:i<kids.len:=by have:=of_decide_eq_true h9;omega
 obtain⟨op2,ln2,co2,tx2,nm2,k2,r,rfl⟩:=Nd.cases1 r oM;have hi2:i+(r.len+1)=kids.len:=hi;have hrs2:k2.size+r.size+1≤kids.size:=hrs;have hfr5:s4.fresh+200001*((k2.size+r.size+1:Nat):Int)≤s.fresh+200001*kids.size:=hfr4;refine C6 (α:=Nat×Nat×Option Addr×Nat) (λx=>na=some ⟨x.1,x.2.1,none⟩) (λx=>[⟨x.1,x.2.1+i*6,FI op2 ln2 co2 tx2 nm2 x.2.2.1 k2.len x.2.2.2⟩]) (λx=>[λw f=>AK w f k2 x.2.2.1 x.2.2.2,λw f=>A0 w f na (i+1) r]) (λw f hM=>let ⟨b,off,ka,kc,h1,h2,h3,h4⟩:=A0.head hM.f0;⟨(b,off,ka,kc),h1,(oE h2),A2.mem ⟨h3,h4,tQ⟩⟩) (λx=>Af.mem ⟨AK.mono,A0.mono,tQ⟩) ?_;rintro⟨eb,eo,ka,kc⟩ rfl;refine go Cw 17 [100,0,0,1] (And.intro oM<|y2<|λb7=>y<|λb8=>y<|λ_=>Eg rfl rfl (eC Qp rfl rfl) (λ_ h=>h) (λw f hM=>ih w f hM.vl A hA s4 hM.res hM.mz hw4 op2 ln2 co2 nm2 tx2 k2 ka kc e4 ea4 oM oM hM.f0 heB4 hM.f4 oM) (λ_=>Au.stab) (λ_=>⟨Ah.mono,AQ.mono,tQ⟩) (λer w2 f2 he hE=>⟨rfl,er,f2,rfl,(by rw[CF,show DF (CF n) s e op ln co tx kids=.error er by simp only[DF,h1,h2,h3,h4,h5,h6,h8,Bool.false_eq_true,if_false,if_true];rw[hpt,show GK (CF n) s4 e4 (.cons op2 ln2 co2 tx2 nm2 k2 r)=.error er by rw[GK,he]]]),hE⟩) ?_);rintro⟨⟨q5,qa,qc⟩,⟨e5,ea5⟩,s5⟩ ⟨hp5,hqb,heB5,hw5,hfr6⟩;dsimp only at hp5 hqb heB5 hw5 hfr6 ⊢;exact go Cw 12 [0,2,0] (y<|y<|y<|λb9=>λ_=>DR 0 0 rfl rfl Dt rfl rfl rfl rfl rfl rfl rfl rfl (λ_ _=>rfl) oM oM λra2 rc2=>go Cw 9 [3] (y<|And.intro ⟨oM,oM⟩<|λ_=>DM ((i+1,r,dn.snoc q5,xs++tC q5 qa qc,ra2,rc2,e5,ea5,s5)) (show r.len<(Nd.cons op2 ln2 co2 tx2 nm2 k2 r).len from Nat.lt_succ_self _) ⟨show i+1+r.len=_ by omega,show (dn.snoc _).len=i+1 by rw[Ty.len_snoc,hdl],hpt.trans (UW hp5),show (dn.snoc _).bnd from Ty.bnd_snoc hdb hqb,heB5,hw5,show r.size≤_ by omega,show s5.fresh+200001*(r.size:Int)≤_ by omega⟩ lE (λw f hM=>⟨_,(hM.more (B':=[]) (F':=[λw f=>Bo w f (dn.snoc q5) (xs++tC q5 qa qc)]) nE (A2.mem ⟨Bo.snoc hM.f0 hM.f5,tQ⟩) (Af.mem ⟨Bo.mono,tQ⟩)).less (.cons _ (.cons _ (.cons _ sR))) sR nE (mR [4,0,2])⟩)));refine go Cw 3 [] (λ_=>GR<|go Cw 4 [] (λ_=>?_));obtain rfl:r=.nil:=Nd.len0 (by have:=of_decide_eq_false h9;omega);have hpt2:GK (CF n) s e kids=.ok (dn,e4,s4):=by rw[hpt];show (Except.ok (dn.app .nil,e4,s4):RI (Ty×Bt×CS))=_;rw[Ty.app_nil]
 have hfr5:s4.fresh≤s.fresh+200001*kids.size:=by have h9:s4.fresh+200001*((0:Nat):Int)≤_:=hfr4;omega
 have hdk:dn.len≤200000:=by have:i+0=kids.len:=hi;omega
 subst hdl;refine Rb (λw f=>Ah w f dn ra rc) Ah.mono (λw f hM=>Ia hM hM.f1) ?_;have hbp:DF (CF n) s e op ln co tx kids=.ok ((.con SI dn),e4,s4):=by simp only[DF,h1,h2,h3,h4,h5,h6,h8,Bool.false_eq_true,if_false,if_true];rw[hpt2]
 refine go Cw 5 [0,2] (y<|y<|λ_=>Eg rfl rfl (eC Gf rfl rfl) (λ_ h=>h) (λw f hM=>Cz w f hM.vl A hA s4 hM.res hM.mz hw4 (.con SI dn) ra rc (D7 dC hdk hdb) hM.f0 ln co) (λ_=>Au.stab) (λ_=>⟨Ah.mono,tQ⟩) (λer w2 f2 he hE=>⟨rfl,er,f2,rfl,(by rw[CF,hbp];simp only;rw[he]),hE⟩) ?_);rintro⟨tf,fa9,fc9⟩ ⟨hfl,-,-⟩;dsimp only at hfl ⊢;exact go Cw 11 [0,1] (y<|y<|λ_=>Bc (λw f hM=>Cu rfl (Ac rfl AI hM.k1 rfl) (Ak rfl)) (λw f hM=>⟨(((.con SI dn),ra,rc),(e4,ea4),s4),f,rfl,⟨(by rw[CF,hbp];simp only;rw[hfl]),(D7 dC hdk hdb),heB4,hw4,by dsimp only;omega⟩,hM.exm,hM.res,⟨hM.f1,hM.f4,tQ⟩⟩));refine go Cw 5 [] (λ_=>?_);have hbp:DF (CF n) s e op ln co tx kids=.ok ((.var 0),e,s):=by simp only[DF,h1,h2,h3,h4,h5,h6,h8,Bool.false_eq_true,if_false,if_true];skip
 refine go Cw 5 [0,2] (y<|y<|λ_=>Eg rfl rfl (eC Gf rfl rfl) (λ_ h=>h) (λw f hM=>Cz w f hM.vl A hA s hM.res hM.mz hw (.var 0) none 0 (B9 _) (Ah.nil _ _ _ _) ln co) (λ_=>Au.stab) (λ_=>⟨Ah.mono,tQ⟩) (λer w2 f2 he hE=>⟨rfl,er,f2,rfl,(by rw[CF,hbp];simp only;rw[he]),hE⟩) ?_);rintro⟨tf,fa9,fc9⟩ ⟨hfl,-,-⟩;dsimp only at hfl ⊢;exact go Cw 11 [0,1] (y<|y<|λ_=>Bc (λw f hM=>Cu rfl (Ac rfl AI hM.k1 rfl) (Ak rfl)) (λw f hM=>⟨(((.var 0),none,0),(e,ea),s),f,rfl,⟨(by rw[CF,hbp];simp only;rw[hfl]),(B9 _),heB,hw,by dsimp only;omega⟩,hM.exm,hM.res,⟨Ah.nil _ _ _ _,hM.f2,tQ⟩⟩))
theorem Sk:∀n,rR prog 102 48 65 130 n
 |0=>λ_ _ _ _ _ _ _ _ _ _ _ _ _ _ _ _ _ _ _ h=>absurd h (Nat.not_lt_zero _)
 |n+1=>λw f hv A hA s hC hf hw op ln co nm tx kids na nc e ea hm hsz hN heB hE hfb=>WY n (Sk n) w f hv A hA s hC hf hw op ln co nm tx kids na nc e ea hm hsz hN heB hE hfb
def wE:Eh:=⟨[],[(53,57,4)],[],[],[(57,true,4)],[(57,[.int .i64 0,.int .i64 0,.string ⟨#[]⟩,.slice none 0 0])],[],[]⟩
theorem S6:wE.Ok prog:=⟨tQ,(And.intro DT tQ),tQ,tQ,(And.intro AI tQ),(And.intro DN tQ),tQ,tQ⟩
theorem WA(w:World)(f:Fq)(hv:Vl w f)(a:Option Addr)(m c:Nat) :
  BC prog 97 #[.slice a m c] w (BW (α:=Nat) (λb=>.func (.func 120) #[] #[.pointer (some ⟨b,0,none⟩)]) (λ_=>True) (λb=>[λw f=>Cs w f b 0 [.slice a m c]]) w f):=by
 exact Dl (X:=X0 w f) (H:=[]) (R:=[]) (B:=[]) (Fs:=[]) (f:=f) func97 rfl rfl rfl (C8 hv tQ tQ)<|go S6 8 [] (λb1=>λ_=>EU rfl rfl (λw f hM=>Q5 rfl)<|go S6 4 [] (λ_=>Dn 0 rfl rfl<|Bc (DI rfl rfl) (λw f hM=>⟨b1,f,rfl,tQ,hM.exm,⟨hM.b0,tQ⟩⟩)))
theorem dF(w:World)(f:Fq)(k:Ty)(a:Option Addr)(c m n0 b3 Bs:Nat)(hT:Ah w f k a c)(hm:m≤k.len)(hk:k.len≤200000)(hw0:w.heap.size≤b3)(hBs:Bs<n0)(hBb:Bs≠b3)(hn:w.heap.size≤n0)(w1:World)(hw1:∀j,j<w.heap.size→w1.heap[j]?=w.heap[j]?)(hn1:n0≤w1.heap.size)
  (hc:w1.cell? ⟨Bs,0,none⟩=some (.slice a m c)) (q:Nat) :
  SeqStopsK Fence.wide q prog 120 #[.pointer (some ⟨Bs,0,none⟩)] (pR (w:=w) (f:=f) (k:=k)) (mC n0 b3) (λxs=>aP xs=(k.list.take m).reverse) (λ_=>True) m w1:=λl J Jx W hB _ _ hY h0=>by
 refine callsIn_wide.2 ?_
 have hret:BC prog 120 #[.func (.yield l) #[] #[],.pointer (some ⟨Bs,0,none⟩)] W (λ_ W'=>(∃xs,aP xs=(k.list.take m).reverse∧J xs W')∨(∃pre,True∧Jx pre W')):=by
  refine enter func120 rfl rfl rfl ?_;have hcW:W.cell? ⟨Bs,0,none⟩=some (.slice a m c):=(hB.cell (p:=⟨Bs,0,none⟩) (Nat.lt_of_lt_of_le hBs hn1)).trans hc;have hWw:∀j,j<w.heap.size→W.heap[j]?=w.heap[j]?:=λj hj=>(hB.block j oM).trans (hw1 j hj);refine Cg (CN (Aa rfl (JG rfl Hs hcW) (Aa rfl (Me rfl DT) (Aa rfl (Hx rfl rfl ⟨oM,oM⟩) (Aa rfl (Dq rfl) (Ab (DE (Es ?_))))))));refine Em (λi σ ds W'=>σ=AL (E2 0 (.func (.yield l) #[] #[]) 1 (.pointer (some ⟨Bs,0,none⟩))) 3 (.int .i64 (iv i))∧ds=[]∧i≤m∧mC n0 b3 W W'∧∃pre:List (nW w f k),aP pre=((k.list.take m).drop i).reverse∧pre.length=m-i∧J pre W') m _ lE ⟨rfl,rfl,Nat.le_refl _,λ_ _ _=>rfl,[],by rw[List.drop_eq_nil_of_le (by rw[List.length_take];exact Nat.min_le_left _ _)];rfl,by simp,h0⟩ ?_;rintro i σ ds W' ⟨rfl,rfl,him,hkp,pre,hpm,hpl,hJ⟩;refine Cg (Cg (CN (Aa rfl (A1 rfl) (Aa rfl (XU rfl rfl) (Ab (DE<|No rfl (λht=>Iv (DE ?_)) (λhf=>Lz ?_)))))))
  ·
   obtain⟨j,rfl⟩:∃j,i=j+1:=⟨i-1,by have:=of_decide_eq_true ht;unfold iv at this;omega⟩;obtain⟨t,ht2⟩:=Vg (k:=k) (i:=j) oM;obtain⟨b,off,ka,kc,ha,hcs,htf⟩:=Ah.nth hT ht2;subst ha;have hbw:b<w.heap.size:=IZ (hcs 0 _ rfl).2;have hcW':W'.cell? ⟨Bs,0,none⟩=some (.slice (some ⟨b,off,none⟩) m c):=(E0 (hkp Bs hBs hBb) 0).trans hcW
   have hce:∀(q:Nat)(v:Value),(tC t ka kc)[q]?=some v→W'.cell? ⟨b,off+(j:Int).toNat*4+q,none⟩=some v:=λq v hq=>by
    rw[Int.toNat_natCast];exact (E0 ((hkp b oM oM).trans (hWw b hbw)) _).trans (hcs q v hq).2
   have hy:=hY pre ⟨(j,t,ka,kc),ht2,htf⟩ W' hJ oM;rw[cY];refine Cg (Es (Cg (XF (Gz rfl (A1 rfl) (Gz rfl (A1 rfl) (Gz rfl (JG rfl Hs hcW') (Gz rfl (A1 rfl) (Gz rfl (Ov rfl rfl DT ⟨oM,oM⟩) (Gz rfl (Lw rfl AI rfl hce) (Tx rfl rfl rfl hy ?_))))))))));rintro e W3 (⟨rfl,hJ3,hk3⟩|⟨rfl,hJx3⟩)
   ·
    refine⟨_,rfl,Gz rfl (UM rfl) (S4 (DE (Kh rfl rfl (Iv (Ef (DE (CN (Aa rfl (A1 rfl) (Aa rfl (Hx rfl rfl ⟨oM,oM⟩) (Aa rfl (Dq rfl) (Ab (HN j _ (Nat.lt_succ_self _) lE ⟨rfl,rfl,oM,λq hq hne=>(hk3 q hq hne).trans (hkp q hq hne),pre++[⟨(j,t,ka,kc),ht2,htf⟩],?_,by simp[hpl];omega,hJ3⟩))))))))))))⟩;have hjm:j<(k.list.take m).length:=by rw[List.length_take,Ty.list_len];omega
    rw[aP,List.map_append,List.drop_eq_getElem_cons hjm,List.reverse_cons];have hpm2:List.map (λx=>x.1.2.1) pre=_:=hpm;rw[hpm2]
    congr 1
    have h9:(k.list.take m)[j]?=some t:=by rw[List.getElem?_take,if_pos (by omega),Ty.list_get,ht2]
    rw[List.getElem?_eq_getElem hjm] at h9;simpa using h9.symm
   · exact⟨_,rfl,Gz rfl (UM rfl) (S4 (DE (Gk rfl rfl (Kf (V0 (VX (W0 (V0 (B1 (Ea rfl) (.inr ⟨_,tQ,hJx3⟩))))))))))⟩
  ·
   obtain rfl:i=0:=by have:=of_decide_eq_false hf;unfold iv at this;omega
   exact VA (Nq (P8 (GI (Ea rfl) (.inl ⟨pre,by rw[hpm,List.drop_zero],hJ⟩))))
 exact Calls.mono hret λe W' ⟨v,he,h⟩=>⟨⟨v,he⟩,h⟩
variable {Q:Bm}{σ:Br}
theorem Yy(w:World)(f:Fq)(hv:Vl w f)(k:Ty)(a:Option Addr)(c m:Nat)(tl:T1)(hk:k.len≤200000)(hm:k.len=m+1)(hg:k.get m=some tl)(hkb:k.bnd)(hT:Ah w f k a c)(b1 b2 Bs:Nat)(ta:Option Addr)(tc:Nat)(z:List Value){iA iB jB:Nat}{lA lB:List Oper}
  (hA0:Xy lA=true) (hB0:Xy lB=true) (h17:σ 17=some (.func (.func 120) #[] #[.pointer (some ⟨Bs,0,none⟩)])) (h3:σ 3=some (.pointer (some ⟨b2,0,none⟩)))
  (hA:∀(x:nW w f k)(V:World)(f2:Fq)(Qa:Bm),(∀b5,AF prog 25 Qa [] (X0 V f2) [] [] [] (.out .normal) [] (E4 3 (.pointer (some ⟨b2,0,none⟩)) 18 (.int .i64 (x.1.1:Int)) 19 (tV x.1.2.1 x.1.2.2.1 x.1.2.2.2) 5 (.pointer (some ⟨b5,0,none⟩))) [⟨b5,tC x.1.2.1 x.1.2.2.1 x.1.2.2.2,57,true⟩]) →
   AF prog 25 Qa [] (X0 V f2) [] [] [] (.ops lA lA) [] (E3 3 (.pointer (some ⟨b2,0,none⟩)) 18 (.int .i64 (x.1.1:Int)) 19 (tV x.1.2.1 x.1.2.2.1 x.1.2.2.2)) [])
  (hB:∀(x:nW w f k)(V:World)(f2:Fq)(t:T1)(a2:Option Addr)(c2 b5:Nat)(Qb:Bm),t.bnd→x.1.2.1.bnd→(∀a3 c3 b6 σ',AF prog 25 Qb [] ⟨λb=>b=b2,λ_=>False,λ_ _=>True,V,f2⟩ [] [b6,⟨b5,0,tC x.1.2.1 x.1.2.2.1 x.1.2.2.2⟩] [λw f=>Ah w f (x.1.2.1.cons t.one) a3 c3,λw f=>Ah w f t.kids a2 c2,λw f=>Ah w f x.1.2.1.kids x.1.2.2.1 x.1.2.2.2] (.out .normal) [] σ' [⟨b2,tC (.con Dv (x.1.2.1.cons t.one)) a3 c3,57,false⟩]) →
   AF prog 25 Qb [] ⟨λb=>b=b2,λ_=>False,λ_ _=>True,V,f2⟩ [] [⟨b5,0,tC x.1.2.1 x.1.2.2.1 x.1.2.2.2⟩] [λw f=>Ah w f t.kids a2 c2,λw f=>Ah w f x.1.2.1.kids x.1.2.2.1 x.1.2.2.2] (.ops lB lB) [] (E2 3 (.pointer (some ⟨b2,0,none⟩)) 5 (.pointer (some ⟨b5,0,none⟩))) [⟨b2,tC t a2 c2,57,false⟩])
  (W:World) (f1:Fq) (hM:AW (X0 w f) W f1 [⟨b2,tC tl ta tc,57,true⟩,⟨b1,z,57,true⟩] [] [] [λw f=>Cs w f Bs 0 [.slice a m c],λw f=>Ah w f tl.kids ta tc])
  (hQ:∀D V f2 a2 c2,T5 w f b1 b2 z 57 (HO k) V f2 a2 c2→w.heap.size≤D→V.heap[D]?=some (.deferred (some []))→Q.q .normal σ [{target:=.collected D,args:=#[]}] V) :
  Ic prog 25 (.rangeFunc (.tmp 17) #[18,19] (.region iA lA.toArray false) (.block jB (.region iB lB.toArray false))) Q σ [] W:=λa' ha=>by
 have hblk2:=hM.blk _ (.head _);have hblk1:=hM.blk _ (.tail _ (.head _));have hn2:w.heap.size≤b2:=hM.hnw _ (.head _) rfl;have hn1:w.heap.size≤b1:=hM.hnw _ (.tail _ (.head _)) rfl
 have hnd:b2≠b1:=λe=>by
  have:=hM.nd;simp[CZ,e] at this
 have hcs:Cs W f1 Bs 0 [.slice a m c]:=hM.f0;have hBlt:Bs<W.heap.size:=IZ (hcs 0 _ rfl).2
 have hBb:Bs≠b2:=λe=>by
  have h9:=(hcs 0 _ rfl).1;have h8:=(hM.own b2 (.head _)).1;rw[← e] at h8;omega
 have hI0:T5 w f b1 b2 z 57 tl W (SP.nrm w.heap.size W f1) ta tc:=⟨VI hM.exm,hblk2,hblk1,Ah.nrm hM.f1,HZ hkb hg,⟨J8 (hM.own b2 (.head _)).1,J8 (hM.own b1 (.tail _ (.head _))).1⟩,Y0⟩
 refine wpIn_wide.1 (wpIn_rangeFunc_ownH (n:=3) rfl dC (gf:=120) (lb:=#[.pointer (some ⟨Bs,0,none⟩)]) (ha.ev (.tmp 17) _ h17) tQ cK
  (dF w f k a c m W.heap.size b2 Bs hT oM hk hn2 hBlt hBb hM.exm.stp.size W (λj hj=>hM.exm.stp.block j hj (λh=>h)) (Nat.le_refl _) (hcs 0 _ rfl).2 _)
  (λh1 h2 q hq hne=>(h2 q hq hne).trans (h1 q hq hne)) (λV l o o' hl ho _ _ q hq hne=>World.putObj_heap_other oM) (Below.refl _ _) (λ_=>rfl)
  (λpre V=>∃f2 a2 c2,T5 w f b1 b2 z 57 (gO tl (aP pre)) V f2 a2 c2∧W.heap.size≤V.heap.size) (λ_ _ _=>False)
  (λs V V' row ⟨f2,a2,c2,h,hs⟩ hg hr=>⟨f2,a2,c2,h.own hM.exm.stp.size hg hr,Nat.le_trans hs hg.size⟩) (λ_ _ _ _ _ h _ _=>h.elim) ⟨_,ta,tc,hI0,Nat.le_refl _⟩
  (λx a5 V=>∃b5,St 25 (E2 3 (.pointer (some ⟨b2,0,none⟩)) 5 (.pointer (some ⟨b5,0,none⟩))) [] a5∧AT V b5 (tC x.1.2.1 x.1.2.2.1 x.1.2.2.2) 57∧W.heap.size≤b5)
  (λx a5 s V V' row ⟨b5,h1,h2,h3⟩ hg hr=>⟨b5,h1,(hg.block b5 h2.lt (λe=>by obtain⟨_,o,ho,hc⟩:=hr b5 e.symm;exact I4 h2 ho hc)).trans h2,h3⟩)
  ?_ ?_ ?_ (λ_ _ _ _ _ _ h=>h.elim))
 ·
  rintro l pre x V K ⟨f2,a2,c2,hI,hs⟩ hK
  have hst:St 25 (E3 3 (.pointer (some ⟨b2,0,none⟩)) 18 (.int .i64 (x.1.1:Int)) 19 (tV x.1.2.1 x.1.2.2.1 x.1.2.2.2)) [] {tmps:=(a'.tmps.setIfInBounds 18 (.int .i64 (x.1.1:Int))).setIfInBounds 19 (tV x.1.2.1 x.1.2.2.1 x.1.2.2.2),defers:=[]}:=by
   have h1:=((ha.le (wU h3)).put (d:=18) rfl (.int .i64 (x.1.1:Int))).put (d:=19) rfl (tV x.1.2.1 x.1.2.2.1 x.1.2.2.2);exact⟨h1.size,rfl,h1.val⟩
  refine wpIn_mono (fK (Q:={q:=λe σ ds V'=>match e with|.normal=>∀a5,St 25 σ ds a5→K a5 V' | _=>False,p:=λ_ _ _ _=>False}) hA0 YL (by simpa[pR] using hst) (hA x V f2 _ (λb5 V' f3 hM5=>?_) V f2 (C8 hI.exm.val tQ tQ))) ?_
  ·
   intro a5 ha5;have hE:=hM5.exm;have hb5:=hM5.blk _ (.head _);have hge:V.heap.size≤b5:=hM5.hnw _ (.head _) rfl;have hE3:CR (λb=>b=b2) V f2 V' f3:=hE.mono λ_ h=>h.elim;exact hK a5 V' (KeepsFrom.of_exm hE3 hI.k3) (mC.of_exm hE3 hs) ⟨_,a2,c2,hI.step hn2 (Ne.symm hnd) hE3 ((hE.stp.block b2 hI.k3.lt (λh=>h)).trans hI.k3) (Ah.mono _ _ _ _ hI.ty (hE.fle hI.exm.val (λ_ h=>h.elim))) hI.bnd,Nat.le_trans hs hE.stp.size⟩ ⟨b5,ha5.le lE,hb5,oM⟩
  ·
   rintro e a5 V' h
   cases e with
   |normal=>obtain⟨σ',ds',hs',h⟩:=h;exact h a5 hs'
   |ret=>obtain⟨_,_,_,h⟩:=h;exact h.elim
   |exit i=>obtain⟨_,_,_,h⟩:=h;exact h.elim
   |goto i=>obtain⟨_,_,_,h⟩:=h;exact h.elim
   |panic c=>obtain⟨_,_,_,h⟩:=h;exact h.elim
   |outgrown=>exact h.elim
 ·
  rintro l pre x a5 V hl-⟨f2,a2,c2,hI,hs⟩ ⟨b5,hst,hb5,h5⟩ hlt;have hb2W:b2<W.heap.size:=hblk2.lt;have hb1W:b1<W.heap.size:=hblk1.lt;have hww:w.heap.size≤W.heap.size:=hM.exm.stp.size;obtain⟨hI5,hc5⟩:=hI.frz hb5 (show b5≠b1 by omega) (show b5≠b2 by omega) oM;have hxT:Ah V (λb=>if b=b5 then max (tC x.1.2.1 x.1.2.2.1 x.1.2.2.2).length (f2 b) else f2 b) x.1.2.1.kids x.1.2.2.1 x.1.2.2.2:=Ah.mono _ _ _ _ x.2.2 (hI5.exm.fle hv (λ_ h=>h.elim));have hMb:=(oD hI5.exm.val hI5.k3 hI5.z3.1 (Fs:=[λw f=>Ah w f (gO tl (aP pre)).kids a2 c2,λw f=>Ah w f x.1.2.1.kids x.1.2.2.1 x.1.2.2.2]) ⟨hI5.ty,hxT,tQ⟩ ⟨Ah.mono,Ah.mono,tQ⟩).more (B':=[⟨b5,0,tC x.1.2.1 x.1.2.2.1 x.1.2.2.2⟩]) (F':=[]) (λe he=>by cases he with|head=>exact hc5|tail _ h=>cases h) nE nE;refine wpIn_block (wpIn_mono (fK (Q:={q:=λe σ ds V'=>match e with|.normal=>KeepsFrom W.heap.size V V'∧mC W.heap.size b2 V V'∧∃f2 a2 c2,T5 w f b1 b2 z 57 (gO tl (aP (pre++[x]))) V' f2 a2 c2∧W.heap.size≤V'.heap.size|_=>False,p:=λ_ _ _ _=>False}) hB0 YL hst (hB x V _ (gO tl (aP pre)) a2 c2 b5 _ hI.bnd (HZ hkb x.2.1) (λa3 c3 b6 σ' V' f3 hM5=>?_) V _ hMb)) ?_)
  ·
   have hE:=hM5.exm;have hTn:=hM5.fact (i:=0) rfl;refine⟨KeepsFrom.of_exm hE hI.k3,mC.of_exm hE hs,SP.nrm w.heap.size V' f3,a3,c3,?_,Nat.le_trans hs hE.stp.size⟩;rw[aP,List.map_append,List.map_cons,List.map_nil,Sr];exact hI5.step hn2 (Ne.symm hnd) hE (hM5.blk _ (.head _)) hTn ⟨⟨by simp[T1.kids,T1.len_cons,T1.one,Ty.len],by simp[T1.tx,Dv]⟩,T1.bnd_cons.2 ⟨HZ hkb x.2.1,GO hI.bnd⟩⟩
  ·
   rintro e a6 V' h
   cases e with
   |normal=>obtain⟨σ',ds',hs',h⟩:=h;exact h
   |ret=>obtain⟨_,_,_,h⟩:=h;exact h.elim
   |exit i=>obtain⟨_,_,_,h⟩:=h;exact h.elim
   |goto i=>obtain⟨_,_,_,h⟩:=h;exact h.elim
   |panic c=>obtain⟨_,_,_,h⟩:=h;exact h.elim
   |outgrown=>exact h.elim
 ·
  rintro D xs V hD hS ⟨f2,a2,c2,hI,-⟩ hK;have hS2:aP xs=(k.list.take m).reverse:=hS;rw[hS2,cB m k tl hm hg] at hI;exact⟨σ,_,⟨ha.size,by rw[ha.defs],ha.val⟩,hQ D V f2 a2 c2 hI (Nat.le_trans hM.exm.stp.size hD) hK⟩
theorem WV(w:World)(f:Fq)(hv:Vl w f)(x t:T1)(b:Nat)(hT:Ah w f (x.cons t.one) (some ⟨b,0,none⟩) 2) :
  BC prog 20 #[S Dv,.slice (some ⟨b,0,none⟩) 2 2] w (BW (α:=Option Addr×Nat) (λy=>tV (.con Dv (x.cons t.one)) y.1 y.2) (λ_=>True) (λy=>[λw f=>Ah w f (x.cons t.one) y.1 y.2]) w f):=by
 have e:(x.cons t.one).len=2:=by simp[T1.len_cons,T1.one,Ty.len]
 have h9:=Dc w f hv Dv (x.cons t.one) (some ⟨b,0,none⟩) 2 oM hT;rw[e] at h9;exact h9
theorem ML(w:World)(f:Fq)(hv:Vl w f)(k:Ty)(a:Option Addr)(c:Nat)(hk0:0<k.len)(hkl:k.len≤200000)(hkb:k.bnd)(hT:Ah w f k a c) :
  BC prog 68 #[.slice a k.len c] w (BW (α:=Option Addr×Nat) (λx=>tV (HO k) x.1 x.2) (λ_=>True) (λx=>[λw f=>Ah w f (HO k).kids x.1 x.2]) w f):=by
 refine sO (X:=X0 w f) (H:=[]) (R:=[]) (B:=[]) (Fs:=[λw f=>Ah w f k a c]) (f:=f) func68 rfl rfl rfl (C8 hv ⟨hT,tQ⟩ ⟨Ah.mono,tQ⟩)<|go S6 6 [] (λb1=>λ_=>?_);obtain⟨m,hm⟩:∃m,k.len=m+1:=⟨k.len-1,oM⟩;obtain⟨tl,htl⟩:=Vg (k:=k) (i:=m) oM;refine C6 (α:=Nat×Nat×Option Addr×Nat) (λx=>a=some ⟨x.1,x.2.1,none⟩) (λx=>[⟨x.1,x.2.1+((k.len:Int)-1).toNat*4,tC tl x.2.2.1 x.2.2.2⟩]) (λx=>[λw f=>Ah w f tl.kids x.2.2.1 x.2.2.2]) (λw f hM=>let ⟨b,off,ka,kc,h1,h2,h3⟩:=Ah.nth hM.f0 htl;⟨(b,off,ka,kc),h1,(λe he=>by cases he with|head=>(rw[show ((k.len:Int)-1).toNat=m by omega];exact h2)|tail _ h=>cases h),A2.mem ⟨h3,tQ⟩⟩) (λx=>Af.mem ⟨Ah.mono,tQ⟩) ?_;rintro⟨eb,eo,ta,tc⟩ rfl;refine go S6 18 [100,0,0] (And.intro ⟨oM,oM⟩<|And.intro oM<|y2<|λb2=>y<|And.intro ⟨oM,oM⟩<|λ_=>EU rfl rfl (λw f hM=>Rq (i:=m) (show ((k.len:Int)-1)=(m:Int) by omega) rfl rfl DT (by have:=hT.1;omega))<|BA rfl rfl (eC mS rfl rfl) (λw f hM=>WA w f hM.vl (some ⟨eb,eo,none⟩) m c) (λx=>⟨λ_ _ _ _ h hF=>Cs.mono h hF,tQ⟩) ?_);rintro Bs -;refine go S6 3 [] (λ_=>?_);intro W f1 hM1;have hM2:=hM1.less (H':=[⟨b2,tC tl ta tc,57,true⟩,⟨b1,[.int .i64 0,.int .i64 0,.string ⟨#[]⟩,.slice none 0 0],57,true⟩]) (R':=[]) (B':=[]) (F':=[λw f=>Cs w f Bs 0 [.slice (some ⟨eb,eo,none⟩) m c],λw f=>Ah w f tl.kids ta tc]) sR sR nE (mR [0,1]);refine Yy w f hv k _ c m tl hkl hm htl hkb hT b1 b2 Bs ta tc _ rfl rfl rfl rfl (λx V f2 Qa hcont=>?_) (λx V f2 t a2 c2 b5 Qb htb hxb hcont=>?_) W f1 hM2 (λD V f2 a2 c2 hI hD hK=>?_)
 · exact go S6 3 [0] (λb5=>y<|λ_=>hcont b5)
 ·
  refine go S6 3 [100,0,0] (y2<|y<|λb6=>λ_=>?_);refine Dn 0 rfl rfl<|B5 (λw f=>Ah w f (x.1.2.1.cons t.one) (some ⟨b6,0,none⟩) 2) (λw f hM=>ZW hM.b0 hM.f1 hM.f0) Ah.mono<|BA rfl rfl (eC B6 rfl rfl) (λw f hM=>WV w f hM.vl x.1.2.1 t b6 hM.f0) (λ_=>⟨Ah.mono,tQ⟩) ?_;rintro⟨a3,c3⟩ -;exact go S6 2 [0] (y<|λ_=>λw9 f9 hM9=>hcont a3 c3 _ _ w9 f9 (hM9.less sR sR (λ_ h=>h) (λφ h=>by rcases List.mem_cons.1 h with rfl|h;exact .head _;exact .tail _ (.tail _ h))))
 have hD1:w.heap.size≤b1:=hM1.hnw _ (.tail _ (.head _)) rfl;have hD2:w.heap.size≤b2:=hM1.hnw _ (.head _) rfl;have hne:b2≠b1:=λe=>by have:=hM1.nd;simp[CZ,e] at this
 refine Ef (DE (Cg (CN (Aa rfl (D0 rfl AI hI.k3 rfl) (A4 rfl rfl rfl AI rfl hI.k2 rfl rfl λV2 hb2 hC=>Ab (DE (Kf ?_)))))));obtain⟨h1,h2,h3,h4⟩:=hI.fin hD1 hD hK hC;exact⟨D,rfl,h3,_,AJ rfl (Ac rfl AI (show AT _ b1 _ 57 from (World.putObj_heap_other (Ne.symm h4)).trans hb2) rfl),(a2,c2),f2,rfl,tQ,h1,h2,tQ⟩
def uZ:Eh:=⟨[(55,1,1),(65,0,0),(55,4,5),(55,2,3)],[(34,55,6),(53,57,4)],[],[],[(55,true,6),(57,true,4),(26,true,2),(60,false,1),(34,false,1),(9,false,1)],[(55,[.int .i64 0,.int .i64 0,.int .i64 0,.string ⟨#[]⟩,.int .i64 0,.slice none 0 0]),(57,[.int .i64 0,.int .i64 0,.string ⟨#[]⟩,.slice none 0 0])],[],[]⟩
theorem CP:uZ.Ok prog:=⟨(And.intro GS (And.intro Ky (And.intro Gi (And.intro GW tQ)))),(And.intro FF (And.intro DT tQ)),tQ,tQ,(And.intro Bh (And.intro AI (And.intro Db (And.intro HU (And.intro EK (And.intro GX tQ)))))),(And.intro GJ (And.intro DN tQ)),tQ,tQ⟩
theorem OY(n:Nat)(ih:Xd prog 19 48 65 130 n)(w:World)(f:Fq)(hv:Vl w f)(A:Ad)(hA:A.ok)(s:CS)(hC:Au 65 130 A s w f)(hf:∀b,BE A b→f b=0)(hw:DZ s)(nds:Nd)(na:Option Addr)(nc:Nat)(e:Bt)(ea:Option Addr)(hm:nds.size≤n)(hsz:nds.size≤200000)(hwf:nds.wfm 0)(hN:AK w f nds na nc)(heB:Gt e)(hE:AQ w f e ea)(hfb:s.fresh+200002*nds.size≤800000000000) :
  BS prog 75 #[.pointer (some ⟨A.cb,0,none⟩),.slice na nds.len nc,.pointer ea] w (Fv (α:=(Ty×Option Addr×Nat)×CS) (λx=>.slice x.1.2.1 x.1.1.len x.1.2.2) (λx=>Fi (BP n) e s nds=.ok (x.1.1,x.2)∧x.1.1.len=nds.len∧x.1.1.bnd∧DZ x.2∧x.2.fresh≤s.fresh+200002*nds.size) (BE A) (λx=>Au 65 130 A x.2) (λx=>[λw f=>Ah w f x.1.1 x.1.2.1 x.1.2.2]) w f) (PanE 48 (BE A) (λer=>Fi (BP n) e s nds=.error er) w f):=by
 have hkl:=Nd.len_le nds;have hfr0:=hw.fr;refine Nl (X:=XC 65 130 A s w f) (H:=[]) (R:=[]) (B:=[]) (Fs:=[λw f=>AK w f nds na nc,λw f=>AQ w f e ea]) (f:=f) func75 rfl rfl rfl (Lt hv hC hf ⟨hN,hE,tQ⟩ ⟨AK.mono,AQ.mono,tQ⟩)<|go CP 19 [] (λ_=>Rd 57 4 ?_);refine HK (α:=Nat×Nd×Ty×List Value×Option Addr×Nat×CS) (λx=>x.2.1.len) (λx=>x.1+x.2.1.len=nds.len∧x.2.2.1.len=x.1∧Fi (BP n) e s nds=(match Fi (BP n) e x.2.2.2.2.2.2 x.2.1 with|.error x=>.error x|.ok (l,s3)=>.ok (x.2.2.1.app l,s3))∧x.2.2.1.bnd∧x.2.1.wfm 0∧DZ x.2.2.2.2.2.2∧x.2.1.size≤nds.size∧x.2.2.2.2.2.2.fresh+200002*x.2.1.size≤s.fresh+200002*nds.size) (λx=>(E6 0 (.pointer (some ⟨A.cb,0,none⟩)) 2 (.pointer ea) 7 (.slice x.2.2.2.2.1 x.1 x.2.2.2.2.2.1) 10 (.slice na nds.len nc) 11 (.int .i64 (nds.len:Int)) 12 (.int .i64 (x.1:Int)))) (λx=>⟨BE A,BE A,Au 65 130 A x.2.2.2.2.2.2,w,f⟩) (λx=>[]) (λx=>[⟨57,4,x.2.2.2.2.1,x.2.2.2.2.2.1,x.1,x.2.2.2.1⟩]) (λx=>[]) (λx=>[λw f=>A0 w f na x.1 x.2.1,λw f=>Bo w f x.2.2.1 x.2.2.2.1,λw f=>AQ w f e ea]) (0,nds,.nil,[],none,0,s) ⟨Nat.zero_add _,rfl,Tf,tQ,hwf,hw,Nat.le_refl _,by dsimp only;omega⟩ lE (λw f hM=>hM.more (B':=[]) (F':=[λw f=>A0 w f na 0 nds,λw f=>Bo w f .nil []]) nE (A2.mem ⟨AK.at hM.f0,rfl,tQ⟩) (Af.mem ⟨A0.mono,Bo.mono,tQ⟩) |>.less sR sR nE (mR [0,1,3])) ?_;rintro⟨i,r,dn,xs,ra,rc,s4⟩ ⟨hi,hdl,hea,hdb,hwf,hw4,hrs,hfr4⟩;dsimp only at hi hdl hea hdb hwf hw4 hrs hfr4 ⊢;refine go CP 6 [] (λ_=>Ba 13 rfl rfl (λh1=>?_) (λh1=>?_));refine go CP 6 [] (λ_=>?_);have hil:i<nds.len:=by have:=of_decide_eq_true h1;omega
 obtain⟨op2,ln2,co2,tx2,nm2,k2,r,rfl⟩:=Nd.cases1 r oM;have hi2:i+(r.len+1)=nds.len:=hi;have hrs2:k2.size+r.size+1≤nds.size:=hrs;rw[jU] at hwf;have hfr5:s4.fresh+200002*((k2.size+r.size+1:Nat):Int)≤s.fresh+200002*nds.size:=hfr4;refine C6 (α:=Nat×Nat×Option Addr×Nat) (λx=>na=some ⟨x.1,x.2.1,none⟩) (λx=>[⟨x.1,x.2.1+i*6,FI op2 ln2 co2 tx2 nm2 x.2.2.1 k2.len x.2.2.2⟩]) (λx=>[λw f=>AK w f k2 x.2.2.1 x.2.2.2,λw f=>A0 w f na (i+1) r]) (λw f hM=>let ⟨b,off,ka,kc,h1,h2,h3,h4⟩:=A0.head hM.f0;⟨(b,off,ka,kc),h1,(oE h2),A2.mem ⟨h3,h4,tQ⟩⟩) (λx=>Af.mem ⟨AK.mono,A0.mono,tQ⟩) ?_;rintro⟨eb,eo,ka,kc⟩ rfl;refine go CP 12 [100,0,0,0] (And.intro oM<|y2<|λb1=>y<|y<|λ_=>Eg rfl rfl (eC CY rfl rfl) (λ_ h=>h) (λw f hM=>ih w f hM.vl A hA s4 hM.res hM.mz hw4 op2 ln2 co2 nm2 tx2 k2 ka kc e ea oM oM hwf.1 hM.f0 heB hM.f4 oM) (λ_=>Au.stab) (λ_=>⟨Ah.mono,tQ⟩) (λer w2 f2 he hE=>⟨rfl,er,f2,rfl,(by rw[hea,show Fi (BP n) e s4 (.cons op2 ln2 co2 tx2 nm2 k2 r)=.error er by rw[Fi,he]]),hE⟩) ?_);rintro⟨⟨q5,qa,qc⟩,s5⟩ ⟨hp5,hqb,hw5,hf5⟩;dsimp only at hp5 hqb hw5 hf5 ⊢;exact go CP 1 [] (λb2=>λ_=>DR 0 0 rfl rfl Dt rfl rfl rfl rfl rfl rfl rfl rfl (λ_ _=>rfl) oM oM λra2 rc2=>go CP 8 [] (And.intro ⟨oM,oM⟩<|λ_=>DM ((i+1,r,dn.snoc q5,xs++tC q5 qa qc,ra2,rc2,s5)) (show r.len<(Nd.cons op2 ln2 co2 tx2 nm2 k2 r).len from Nat.lt_succ_self _) ⟨show i+1+r.len=_ by omega,show (dn.snoc _).len=i+1 by rw[Ty.len_snoc,hdl],hea.trans (UC hp5),show (dn.snoc _).bnd from Ty.bnd_snoc hdb hqb,hwf.2,hw5,show r.size≤_ by omega,show s5.fresh+200002*(r.size:Int)≤_ by omega⟩ lE (λw f hM=>⟨_,(hM.more (B':=[]) (F':=[λw f=>Bo w f (dn.snoc q5) (xs++tC q5 qa qc)]) nE (A2.mem ⟨Bo.snoc hM.f0 hM.f4,tQ⟩) (Af.mem ⟨Bo.mono,tQ⟩)).less (.cons _ (.cons _ sR)) sR nE (mR [3,0,6])⟩)));refine go CP 3 [] (λ_=>GR<|go CP 3 [] (λ_=>?_));obtain rfl:r=.nil:=Nd.len0 (by have:=of_decide_eq_false h1;omega);have hea2:Fi (BP n) e s nds=.ok (dn,s4):=by rw[hea];show (Except.ok (dn.app .nil,s4):RI (Ty×CS))=_;rw[Ty.app_nil]
 have hfr5:s4.fresh≤s.fresh+200002*nds.size:=by have h9:s4.fresh+200002*((0:Nat):Int)≤_:=hfr4;omega
 have hdk:dn.len=nds.len:=by have:i+0=nds.len:=hi;omega
 subst hdl;exact Rb (λw f=>Ah w f dn ra rc) Ah.mono (λw f hM=>Ia hM hM.f1)<|go CP 6 [] (λ_=>Bc (DI rfl rfl) (λw f hM=>⟨((dn,ra,rc),s4),f,rfl,⟨hea2,hdk,hdb,hw4,hfr5⟩,hM.exm,hM.res,⟨hM.f0,tQ⟩⟩))
theorem Xz(n:Nat)(ihb:∀ (w:World) (f:Fq) (hv:Vl w f) (A:Ad) (hA:A.ok) (s:CS) (hC:Au 65 130 A s w f) (hf:∀b,BE A b→f b=0) (hw:DZ s) (op ln co nm:Int) (tx:lU) (kids:Nd) (na:Option Addr) (nc:Nat) (e:Bt) (ea:Option Addr),kids.size<n+1→kids.size≤200000→Hj op kids→AK w f kids na nc→Gt e→AQ w f e ea→s.fresh+200002*(kids.size+1)≤800000000000→BS prog 49 #[.pointer (some ⟨A.cb,0,none⟩),.agg #[.int .i64 op,.int .i64 ln,.int .i64 co,S tx,.int .i64 nm,.slice na kids.len nc],.pointer ea] w (Fv (α:=(T1×Option Addr×Nat)×CS) (λx=>tV x.1.1 x.1.2.1 x.1.2.2) (λx=>Bb n (BP n) s e op ln co tx kids=.ok (x.1.1,x.2)∧x.1.1.bnd∧DZ x.2∧x.2.fresh+1≤s.fresh+200002*(kids.size+1)) (BE A) (λx=>Au 65 130 A x.2) (λx=>[λw f=>Ah w f x.1.1.kids x.1.2.1 x.1.2.2]) w f) (PanE 48 (BE A) (λer=>Bb n (BP n) s e op ln co tx kids=.error er) w f))(w:World)(f:Fq)(hv:Vl w f)(A:Ad)(hA:A.ok)(s:CS)(hC:Au 65 130 A s w f)(hf:∀b,BE A b→f b=0)(hw:DZ s)(op ln co nm:Int)(tx:lU)(kids:Nd)(na:Option Addr)(nc:Nat)(e:Bt)(ea:Option Addr)(hm:kids.size<n+1)(hsz:kids.size≤200000)(hwf:Hj op kids)(hN:AK w f kids na nc)(heB:Gt e)(hE:AQ w f e ea)(hfb:s.fresh+200002*(kids.size+1)≤800000000000) :
  BS prog 19 #[.pointer (some ⟨A.cb,0,none⟩),.agg #[.int .i64 op,.int .i64 ln,.int .i64 co,S tx,.int .i64 nm,.slice na kids.len nc],.pointer ea] w (Fv (α:=(T1×Option Addr×Nat)×CS) (λx=>tV x.1.1 x.1.2.1 x.1.2.2) (pV (n+1) s e op ln co tx nm kids) (BE A) (λx=>Au 65 130 A x.2) (λx=>[λw f=>Ah w f x.1.1.kids x.1.2.1 x.1.2.2]) w f) (PanE 48 (BE A) (λer=>BP (n+1) s e op ln co tx nm kids=.error er) w f):=by
 refine Nl (X:=XC 65 130 A s w f) (H:=[]) (R:=[]) (B:=[]) (Fs:=[λw f=>AK w f kids na nc,λw f=>AQ w f e ea]) (f:=f) func19 rfl rfl rfl (Lt hv hC hf ⟨hN,hE,tQ⟩ ⟨AK.mono,AQ.mono,tQ⟩)<|go CP 11 [1] (λb1=>λb2=>y<|λ_=>Eg rfl rfl (eC kY rfl rfl) (λ_ h=>h) (λw f hM=>ihb w f hM.vl A hA s hM.res hM.mz hw op ln co nm tx kids na nc e ea hm hsz hwf hM.f0 heB hM.f1 hfb) (λ_=>Au.stab) (λ_=>⟨Ah.mono,tQ⟩) (λer w2 f2 he hE=>⟨rfl,er,f2,rfl,(by rw[BP,he]),hE⟩) ?_);rintro⟨⟨t,ta,tc⟩,s1⟩ ⟨hbr,htb,hw1,hf1⟩;dsimp only at hbr htb hw1 hf1 ⊢;refine go CP 10 [0,0,2] (λb3=>y<|y<|y<|λ_=>Eg rfl rfl (eC Gf rfl rfl) (λ_ h=>h) (λw f hM=>Cz w f hM.vl A hA s1 hM.res hM.mz hw1 t ta tc htb hM.f0 ln co) (λ_=>Au.stab) (λ_=>⟨Ah.mono,tQ⟩) (λer w2 f2 he hE=>⟨rfl,er,f2,rfl,(by rw[BP,hbr];simp only;rw[he]),hE⟩) ?_);rintro⟨tf,fa9,fc9⟩ ⟨hfl,-,-⟩;dsimp only at hfl ⊢;exact go CP 9 [0,1] (y<|y<|λ_=>Bc (λw f hM=>AJ rfl (Ac rfl AI hM.k1 rfl)) (λw f hM=>⟨((t,ta,tc),s1),f,rfl,⟨(by rw[BP,hbr];simp only;rw[hfl]),htb,hw1,hf1⟩,hM.exm,hM.res,⟨hM.f1,tQ⟩⟩))
theorem Th(n:Nat)(ih:Xd prog 19 48 65 130 n)(w:World)(f:Fq)(hv:Vl w f)(A:Ad)(hA:A.ok)(s:CS)(hC:Au 65 130 A s w f)(hf:∀b,BE A b→f b=0)(hw:DZ s)(op ln co nm:Int)(tx:lU)(op2 ln2 co2 nm2:Int)(tx2:lU)(k2 r:Nd)(na:Option Addr)(nc:Nat)(e:Bt)(ea:Option Addr)(hm:k2.size<n)(hsz:k2.size≤200000)(hwf:Hj op2 k2)(hN:AK w f (.cons op2 ln2 co2 tx2 nm2 k2 r) na nc)(heB:Gt e)(hE:AQ w f e ea)(hfb:s.fresh+200002*(k2.size+2)≤800000000000) :
  BS prog 23 #[.pointer (some ⟨A.cb,0,none⟩),.agg #[.int .i64 op,.int .i64 ln,.int .i64 co,S tx,.int .i64 nm,.slice na (Nd.cons op2 ln2 co2 tx2 nm2 k2 r).len nc],.pointer ea] w (Fv (α:=(T1×Option Addr×Nat)×CS) (λx=>tV x.1.1 x.1.2.1 x.1.2.2) (λx=>Iq (BP n) s e ln co tx op2 ln2 co2 tx2 nm2 k2=.ok (x.1.1,x.2)∧x.1.1.bnd∧DZ x.2∧x.2.fresh≤s.fresh+200002*(k2.size+1)) (BE A) (λx=>Au 65 130 A x.2) (λx=>[λw f=>Ah w f x.1.1.kids x.1.2.1 x.1.2.2]) w f) (PanE 48 (BE A) (λer=>Iq (BP n) s e ln co tx op2 ln2 co2 tx2 nm2 k2=.error er) w f):=by
 have hfr0:=hw.fr;have hkl:0<(Nd.cons op2 ln2 co2 tx2 nm2 k2 r).len:=Nat.succ_pos _;refine Nl (X:=XC 65 130 A s w f) (H:=[]) (R:=[]) (B:=[]) (Fs:=[λw f=>AK w f (.cons op2 ln2 co2 tx2 nm2 k2 r) na nc,λw f=>AQ w f e ea]) (f:=f) func23 rfl rfl rfl (Lt hv hC hf ⟨hN,hE,tQ⟩ ⟨AK.mono,AQ.mono,tQ⟩)<|go CP 11 [] (λb1=>λb2=>λ_=>EU rfl rfl (λw f hM=>Al rfl HU hM.res.blk rfl)<|aM λpr=>OM (α:=CS) (val:=λ_=>tV (AB s).1 none 0) (q:=λx=>x=(AB s).2∧DZ x∧x.fresh=s.fresh+1) (I':=λx=>Au 65 130 A x) (F':=λ_=>[]) (XX:=λ_ _=>False) rfl rfl (eC Lg rfl rfl) (λw f hM=>(Fj w f hM.vl A hA s hw pr hM.res.1 hM.res.2 hM.mz oM).retP) (λ_=>Au.stab) (λ_=>trivial) (λ_ _ _ _ _ h=>h.elim) ?_);rintro s1 ⟨hs1,hw1,hw1f⟩;refine go CP 5 [0] (λb3=>y<|λ_=>B5 (λw f=>A0 w f na 0 (.cons op2 ln2 co2 tx2 nm2 k2 r)) (λw f hM=>AK.at hM.f0) A0.mono<|C6 (α:=Nat×Nat×Option Addr×Nat) (λx=>na=some ⟨x.1,x.2.1,none⟩) (λx=>[⟨x.1,x.2.1+0*6,FI op2 ln2 co2 tx2 nm2 x.2.2.1 k2.len x.2.2.2⟩]) (λx=>[λw f=>AK w f k2 x.2.2.1 x.2.2.2,λw f=>A0 w f na 1 r]) (λw f hM=>let ⟨b,off,ka,kc,h1,h2,h3,h4⟩:=A0.head hM.f0;⟨(b,off,ka,kc),h1,(oE h2),A2.mem ⟨h3,h4,tQ⟩⟩) (λx=>Af.mem ⟨AK.mono,A0.mono,tQ⟩) ?_);rintro⟨eb,eo,ka,kc⟩ rfl;refine Dp [0,1,2] Ap (rd [0,1,2,3,4,5,6,7,8,9,10,11] (.br 12 (.br 13 (.br 14 (.br 15 .fin .fin) .fin) (.br 14 (.br 13 (.br 15 .fin .fin) .fin) .fin)) (.br 14 (.br 12 (.br 13 (.br 15 .fin .fin) .fin) .fin) .fin))) rfl kR<|AA CP 12 [2,100,0,2,0,2] (y<|And.intro oM<|y2<|y<|y<|y<|λ_=>Ag rfl ?_ ?_);refine Eg rfl rfl (eC IW rfl rfl) (λ_ h=>h) (λw f hM=>Et w f hM.vl A hA s1 hM.res hM.mz hw1 e ea heB hM.f4 tx (AB s).1 none 0 (B9 _) (Ah.nil _ _ _ _) false ln co) (λ_=>Au.stab) (λ_=>⟨AQ.mono,tQ⟩) (λer w2 f2 he hE=>⟨rfl,er,f2,rfl,(by cases he),hE⟩) ?_;rintro⟨e2,ea2⟩ ⟨he2,heB2⟩;dsimp only at he2 heB2 ⊢;have hee:e2=⟨tx,(AB s).1,[]⟩::e:=by cases he2;rfl
 refine go CP 1 [] (λ_=>Ax [0,1,2] rfl<|Ag rfl ?_ ?_);refine Eg rfl rfl (eC CY rfl rfl) (λ_ h=>h) (λw f hM=>ih w f hM.vl A hA s1 hM.res hM.mz hw1 op2 ln2 co2 nm2 tx2 k2 ka kc e2 ea2 oM oM hwf hM.f1 heB2 hM.f0 oM) (λ_=>Au.stab) (λ_=>⟨Ah.mono,tQ⟩) (λer w2 f2 he hE=>⟨rfl,er,f2,rfl,(by rw[Iq,← hs1,← hee,he]),hE⟩) ?_;rintro⟨⟨t,ta,tc⟩,s2⟩ ⟨hp2,htb,hw2,hf2⟩;dsimp only at hp2 htb hw2 hf2 ⊢;refine go CP 1 [] (λ_=>Ax [0,1,2] rfl<|Ag rfl ?_ Aj);refine go CP 2 [] (λb4=>λ_=>Ax [1,2,3] rfl<|Ag rfl ?_ Aj);refine go CP 2 [0] (y<|λ_=>Ax [1,2,3] rfl<|B4<|go CP 8 [1,0,3] (y<|y<|y<|λ_=>Eg rfl rfl (eC G8 rfl rfl) (λ_ h=>h) (λw f hM=>Dr w f hM.vl A hA s2 hM.res hM.mz hw2 (AB s).1 t none 0 ta tc (B9 _) htb (Ah.nil _ _ _ _) hM.f0 ln co) (λ_=>Au.stab) (λ_=>trivial) (λer w2 f2 he hE=>⟨rfl,er,f2,rfl,(by rw[Iq,← hs1,← hee,hp2];simp only;rw[he]),hE⟩) ?_));rintro s3 ⟨hh3,hw3,hf3⟩;exact go CP 9 [0,2] (y<|y<|λ_=>Bc (λw f hM=>AJ rfl (Ac rfl AI hM.k2 rfl)) (λw f hM=>⟨((t,ta,tc),s3),f,rfl,⟨(by rw[Iq,← hs1,← hee,hp2];simp only;rw[hh3]),htb,hw3,by dsimp only;rw[hf3];omega⟩,hM.exm,hM.res,⟨hM.f0,tQ⟩⟩));refine Ag rfl ?_ Aj;refine go CP 2 [] (λb5=>λ_=>Ax [1,2,3] rfl<|Ag rfl ?_ Aj);refine Eg rfl rfl (eC CY rfl rfl) (λ_ h=>h) (λw f hM=>ih w f hM.vl A hA s1 hM.res hM.mz hw1 op2 ln2 co2 nm2 tx2 k2 ka kc e2 ea2 oM oM hwf hM.f1 heB2 hM.f0 oM) (λ_=>Au.stab) (λ_=>⟨Ah.mono,tQ⟩) (λer w2 f2 he hE=>⟨rfl,er,f2,rfl,(by rw[Iq,← hs1,← hee,he]),hE⟩) ?_;rintro⟨⟨t,ta,tc⟩,s2⟩ ⟨hp2,htb,hw2,hf2⟩;dsimp only at hp2 htb hw2 hf2 ⊢;refine go CP 1 [] (λ_=>Ax [1,2,3] rfl<|Ag rfl ?_ Aj);refine go CP 2 [0] (y<|λ_=>Ax [1,2,3] rfl<|B4<|go CP 8 [1,0,3] (y<|y<|y<|λ_=>Eg rfl rfl (eC G8 rfl rfl) (λ_ h=>h) (λw f hM=>Dr w f hM.vl A hA s2 hM.res hM.mz hw2 (AB s).1 t none 0 ta tc (B9 _) htb (Ah.nil _ _ _ _) hM.f0 ln co) (λ_=>Au.stab) (λ_=>trivial) (λer w2 f2 he hE=>⟨rfl,er,f2,rfl,(by rw[Iq,← hs1,← hee,hp2];simp only;rw[he]),hE⟩) ?_));rintro s3 ⟨hh3,hw3,hf3⟩;exact go CP 9 [0,2] (y<|y<|λ_=>Bc (λw f hM=>AJ rfl (Ac rfl AI hM.k2 rfl)) (λw f hM=>⟨((t,ta,tc),s3),f,rfl,⟨(by rw[Iq,← hs1,← hee,hp2];simp only;rw[hh3]),htb,hw3,by dsimp only;rw[hf3];omega⟩,hM.exm,hM.res,⟨hM.f0,tQ⟩⟩));refine Ag rfl ?_ Aj;refine go CP 2 [] (λb6=>λ_=>Ax [1,2,3] rfl<|Ag rfl ?_ Aj);refine Eg rfl rfl (eC IW rfl rfl) (λ_ h=>h) (λw f hM=>Et w f hM.vl A hA s1 hM.res hM.mz hw1 e ea heB hM.f4 tx (AB s).1 none 0 (B9 _) (Ah.nil _ _ _ _) false ln co) (λ_=>Au.stab) (λ_=>⟨AQ.mono,tQ⟩) (λer w2 f2 he hE=>⟨rfl,er,f2,rfl,(by cases he),hE⟩) ?_;rintro⟨e2,ea2⟩ ⟨he2,heB2⟩;dsimp only at he2 heB2 ⊢;have hee:e2=⟨tx,(AB s).1,[]⟩::e:=by cases he2;rfl
 refine go CP 1 [] (λ_=>Ax [1,2,3] rfl<|Ag rfl ?_ Aj);refine Eg rfl rfl (eC CY rfl rfl) (λ_ h=>h) (λw f hM=>ih w f hM.vl A hA s1 hM.res hM.mz hw1 op2 ln2 co2 nm2 tx2 k2 ka kc e2 ea2 oM oM hwf hM.f1 heB2 hM.f0 oM) (λ_=>Au.stab) (λ_=>⟨Ah.mono,tQ⟩) (λer w2 f2 he hE=>⟨rfl,er,f2,rfl,(by rw[Iq,← hs1,← hee,he]),hE⟩) ?_;rintro⟨⟨t,ta,tc⟩,s2⟩ ⟨hp2,htb,hw2,hf2⟩;dsimp only at hp2 htb hw2 hf2 ⊢;refine go CP 1 [] (λ_=>Ax [1,2,3] rfl<|Ag rfl ?_ Aj);refine go CP 2 [0] (y<|λ_=>Ax [1,2,3] rfl<|B4<|go CP 8 [1,0,3] (y<|y<|y<|λ_=>Eg rfl rfl (eC G8 rfl rfl) (λ_ h=>h) (λw f hM=>Dr w f hM.vl A hA s2 hM.res hM.mz hw2 (AB s).1 t none 0 ta tc (B9 _) htb (Ah.nil _ _ _ _) hM.f0 ln co) (λ_=>Au.stab) (λ_=>trivial) (λer w2 f2 he hE=>⟨rfl,er,f2,rfl,(by rw[Iq,← hs1,← hee,hp2];simp only;rw[he]),hE⟩) ?_));rintro s3 ⟨hh3,hw3,hf3⟩;exact go CP 9 [0,2] (y<|y<|λ_=>Bc (λw f hM=>AJ rfl (Ac rfl AI hM.k2 rfl)) (λw f hM=>⟨((t,ta,tc),s3),f,rfl,⟨(by rw[Iq,← hs1,← hee,hp2];simp only;rw[hh3]),htb,hw3,by dsimp only;rw[hf3];omega⟩,hM.exm,hM.res,⟨hM.f0,tQ⟩⟩))
end Go.Proofs.YtegedalegfadgaaGreatDoor
