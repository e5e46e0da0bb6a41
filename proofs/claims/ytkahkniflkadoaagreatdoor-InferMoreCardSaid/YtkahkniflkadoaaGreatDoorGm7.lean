/- InferMore: of every text the law answers true: renamed, extended and prefixed texts infer alike -/
import Derived.Test.YtkahkniflkadoaaGreatDoorGm6
import Derived.ChangeMaps5
set_option linter.unusedVariables false
set_option linter.unusedSimpArgs false
namespace Go.SP
open Go.SW Go.RowKit
def Fl(d n:Int):Int:=if 0<n then n+d else n
theorem fR{d:Int}(hd:0≤d){a b:Int}(h:Fl d a=Fl d b):a=b:=by unfold Fl at h;split at h <;> split at h <;> omega
theorem K2{d:Int}(hd:0≤d)(a b:Int):(Fl d a==Fl d b)=(a==b):=by
 by_cases e:a=b
 · subst e;simp
 · rw[beq_eq_false_iff_ne.2 e,beq_eq_false_iff_ne.2 (λh=>e (fR hd h))]
theorem PE{d:Int}(hd:0≤d)(l:List Int)(n:Int):(l.map (Fl d)).contains (Fl d n)=l.contains n:=by
 induction l with
 |nil=>rfl
 |cons a l ih=>simp only[List.map_cons,List.contains_cons,ih,K2 hd]
def Ty.sh(d:Int):Ty→Ty
 |.nil=>.nil
 |.var n r=>.var (Fl d n) (r.sh d)
 |.con tx k r=>.con tx (k.sh d) (r.sh d)
def T1.sh(d:Int):T1→T1
 |.var n=>.var (Fl d n)
 |.con tx k=>.con tx (k.sh d)
section
variable{d:Int}
theorem JD(t:T1)(r:Ty):(t.cons r).sh d=(t.sh d).cons (r.sh d):=by cases t <;> rfl
theorem EU(t:T1):t.one.sh d=(t.sh d).one:=by cases t <;> rfl
theorem HW:∀x y:Ty,(x.app y).sh d=(x.sh d).app (y.sh d)
 |.nil,_=>rfl
 |.var _ r,y=>by simp only[Ty.app,Ty.sh,HW r y]
 |.con _ _ r,y=>by simp only[Ty.app,Ty.sh,HW r y]
theorem Mn:∀x:Ty,(x.sh d).len=x.len
 |.nil=>rfl
 |.var _ r=>by simp only[Ty.sh,Ty.len,Mn r]
 |.con _ _ r=>by simp only[Ty.sh,Ty.len,Mn r]
theorem Us:∀(x:Ty)(i:Nat),(x.sh d).get i=(x.get i).map (T1.sh d)
 |.nil,_=>rfl
 |.var _ _,0=>rfl
 |.con _ _ _,0=>rfl
 |.var _ r,i+1=>Us r i
 |.con _ _ r,i+1=>Us r i
theorem NN(x:Ty):(x.sh d).hd=x.hd.sh d:=by cases x <;> rfl
theorem V8(x:Ty):(x.sh d).tl=x.tl.sh d:=by cases x <;> rfl
theorem Lc:∀x:Ty,(x.sh d).last=x.last.sh d
 |.nil=>rfl
 |.var _ .nil=>rfl
 |.con _ _ .nil=>rfl
 |.var _ (.var m r)=>Lc (.var m r)
 |.var _ (.con t k r)=>Lc (.con t k r)
 |.con _ _ (.var m r)=>Lc (.var m r)
 |.con _ _ (.con t k r)=>Lc (.con t k r)
theorem MM:∀x:Ty,Gt (x.sh d)=(Gt x).sh d
 |.nil=>rfl
 |.var _ .nil=>rfl
 |.con _ _ .nil=>rfl
 |.var n (.var m r)=>by have:=MM (.var m r);simp only[Ty.sh] at this ⊢;simp only[Gt,this,T1.sh,Ty.sh,EU]
 |.var n (.con t k r)=>by have:=MM (.con t k r);simp only[Ty.sh] at this ⊢;simp only[Gt,this,T1.sh,Ty.sh,EU]
 |.con t k (.var m r)=>by have:=MM (.var m r);simp only[Ty.sh] at this ⊢;simp only[Gt,this,T1.sh,Ty.sh,EU]
 |.con t k (.con t2 k2 r)=>by have:=MM (.con t2 k2 r);simp only[Ty.sh] at this ⊢;simp only[Gt,this,T1.sh,Ty.sh,EU]
end
structure Fi(d:Int)(b0 b b':Bn):Prop where
 eq:b'=b.map (λp=>(Fl d p.1,p.2.sh d))++b0
 lo:∀n,AW b0 (Fl d n)=none
 w:QR b
 w':QR b'
section
variable{d:Int}(hd:0≤d){b0:Bn}
include hd
theorem Sp(n:Int)(hl:AW b0 (Fl d n)=none):∀b:Bn,AW (b.map (λp=>(Fl d p.1,p.2.sh d))++b0) (Fl d n)=(AW b n).map (T1.sh d)
 | []=>hl
 |(k,t)::b=>by
   simp only[List.map_cons,List.cons_append,AW,K2 hd]
   split
   · rfl
   · exact Sp n hl b
variable{b b':Bn}(h:Fi d b0 b b')
include h
theorem Fi.look(n:Int):AW b' (Fl d n)=(AW b n).map (T1.sh d):=by rw[h.eq];exact Sp hd n (h.lo n) b
theorem Fi.headK:∀(k:Nat)(t:T1),Em b t≤k→Ah b' (t.sh d)=(Ah b t).sh d:=by
 intro k
 induction k with
 |zero =>
   intro t ht
   cases t with
   |con tx ks=>rfl
   |var n =>
     cases hl:AW b n with
     |some t2=>have:=IK h.w hl;omega
     |none=>rw[Dg hl];exact Dg (by rw[h.look hd,hl];rfl)
 |succ k ih =>
   intro t ht
   cases t with
   |con tx ks=>rfl
   |var n =>
     cases hl:AW b n with
     |some t2 =>
       have hr:=IK h.w hl;rw[Hq h.w hl,← ih t2 (by omega)];exact Hq h.w' (by rw[h.look hd,hl];rfl)
     |none=>rw[Dg hl];exact Dg (by rw[h.look hd,hl];rfl)
theorem Fi.head(t:T1):Ah b' (t.sh d)=(Ah b t).sh d:=h.headK hd _ t (Nat.le_refl _)
theorem Fi.headv(n:Int):Ah b' (.var (Fl d n))=(Ah b (.var n)).sh d:=h.head hd (.var n)
theorem Fi.small:∀(k:Nat)(x:Ty),BG b' k (x.sh d)=BG b k x
 |k,.nil=>by cases k <;> rfl
 |0,.var _ _=>rfl
 |0,.con _ _ _=>rfl
 |k+1,.con tx ks r=>by simp only[Ty.sh,BG,← HW];exact Fi.small k _
 |k+1,.var n r=>by
   simp only[Ty.sh,BG,h.headv hd]
   cases Ah b (.var n) with
   |var m=>exact Fi.small k r
   |con tx ks=>simp only[T1.sh,← HW];exact Fi.small k _
theorem Fi.free(x:Int):∀(k:Nat)(y:Ty),Cv b' (Fl d x) k (y.sh d)=Cv b x k y
 |k,.nil=>by cases k <;> rfl
 |0,.var _ _=>rfl
 |0,.con _ _ _=>rfl
 |k+1,.con tx ks r=>by simp only[Ty.sh,Cv,← HW];exact Fi.free x k _
 |k+1,.var n r=>by
   simp only[Ty.sh,Cv,h.headv hd]
   cases Ah b (.var n) with
   |var m=>simp only[T1.sh,K2 hd,Fi.free x k r]
   |con tx ks=>simp only[T1.sh,← HW];exact Fi.free x k _
theorem Fi.full:∀(k:Nat)(x:Ty),AH b' k (x.sh d)=(AH b k x).sh d
 |k,.nil=>by cases k <;> rfl
 |0,.var _ _=>rfl
 |0,.con _ _ _=>rfl
 |k+1,.con tx ks r=>by simp only[Ty.sh,AH,Fi.full k]
 |k+1,.var n r=>by
   simp only[Ty.sh,AH,h.headv hd]
   cases Ah b (.var n) with
   |var m=>simp only[T1.sh,Ty.sh,Fi.full k r]
   |con tx ks=>simp only[T1.sh,Ty.sh,Fi.full k]
theorem Fi.fullS(t:T1):fullS b' (t.sh d)=(fullS b t).map (T1.sh d):=by
 unfold Go.SP.fullS El;rw[← EU,h.small hd,h.full hd,NN]
 split <;> rfl
theorem Fi.bind{n:Int}{t:T1}{b2:Bn}(hn:AW b n=none)(ht:Ah b t=t)(hb:Ca b n t=.ok b2):∃b2',Ca b' (Fl d n) (t.sh d)=.ok b2'∧Fi d b0 b2 b2':=by
 unfold Ca at hb
 split at hb
 · rename_i h1
   split at hb
   · rename_i h2
     cases hb
     have h1':El b' (t.sh d)=true:=by unfold El;rw[← EU,h.small hd];exact h1
     have h2':Cv b' (Fl d n) 1000 (t.sh d).one=true:=by rw[← EU,h.free hd];exact h2
     exact⟨(Fl d n,t.sh d)::b',by unfold Ca;rw[if_pos h1',if_pos h2'],by rw[h.eq];rfl,h.lo,S4 h.w hn ht h2,S4 h.w' (by rw[h.look hd,hn];rfl) (by rw[h.head hd,ht]) h2'⟩
   · cases hb
 · cases hb
end
section
variable{d:Int}(hd:0≤d){b0:Bn}
include hd
theorem Np{f:Bn→Ty→Ty→Except Int Bn}(hf:∀ {b b' b2 x y},Fi d b0 b b'→f b x y=.ok b2→∃b2',f b' (x.sh d) (y.sh d)=.ok b2'∧Fi d b0 b2 b2'){b b' b2:Bn}(h:Fi d b0 b b'){x y:T1}{r q:Ty}
   (hx:Ah b x=x) (hy:Ah b y=y) (hu:ED f b x y r q=.ok b2):∃b2',ED f b' (x.sh d) (y.sh d) (r.sh d) (q.sh d)=.ok b2'∧Fi d b0 b2 b2':=by
 cases x with
 |var n =>
   cases y with
   |var m =>
     simp only[ED,T1.sh,K2 hd] at hu ⊢
     split at hu
     · rename_i e;rw[if_pos e];exact hf h hu
     · rename_i e
       rw[if_neg e]
       split at hu
       · cases hu
       · rename_i b1 hb
         obtain⟨b1',e1,h1⟩:=h.bind hd (F3 h.w hx) hy hb;simp only[T1.sh] at e1;rw[e1];exact hf h1 hu
   |con ty kb =>
     simp only[ED,T1.sh] at hu ⊢
     split at hu
     · cases hu
     · rename_i b1 hb
       obtain⟨b1',e1,h1⟩:=h.bind hd (F3 h.w hx) hy hb;simp only[T1.sh] at e1;rw[e1];exact hf h1 hu
 |con tx ka =>
   cases y with
   |var m =>
     simp only[ED,T1.sh] at hu ⊢
     split at hu
     · cases hu
     · rename_i b1 hb
       obtain⟨b1',e1,h1⟩:=h.bind hd (F3 h.w hy) hx hb;simp only[T1.sh] at e1;rw[e1];exact hf h1 hu
   |con ty kb =>
     simp only[ED,T1.sh] at hu ⊢;rw[Mn,Mn]
     split at hu
     · cases hu
     · rename_i e
       rw[if_neg e,← HW,← HW];exact hf h hu
theorem Ki:∀(k:Nat){b b' b2:Bn}{x y:Ty},Fi d b0 b b'→Gb k b x y=.ok b2→∃b2',Gb k b' (x.sh d) (y.sh d)=.ok b2'∧Fi d b0 b2 b2'
 |k,b,b',b2,.nil,y,h,hu=>by
   have e1:Gb k b .nil y=.ok b:=by cases k <;> rfl
   have e2:Gb k b' .nil (y.sh d)=.ok b':=by cases k <;> rfl
   rw[e1] at hu;cases hu;exact⟨b',e2,h⟩
 |0,_,_,_,.var _ _,_,_,hu=>by cases hu
 |0,_,_,_,.con _ _ _,_,_,hu=>by cases hu
 |k+1,b,b',b2,.var n r,y,h,hu=>by
   simp only[Gb,Ty.sh] at hu ⊢;rw[h.headv hd,NN,h.head hd,V8];exact Np hd (λh2 h3=>Ki k h2 h3) h (Im h.w _) (Im h.w _) hu
 |k+1,b,b',b2,.con tx ka r,y,h,hu=>by
   simp only[Gb,Ty.sh] at hu ⊢;rw[NN,h.head hd,V8];exact Np hd (λh2 h3=>Ki k h2 h3) (x:=.con tx ka) h rfl (Im h.w _) hu
theorem Mv:∀(x:Ty)(l:List Int),Cu (x.sh d) (l.map (Fl d))=(Cu x l).map (Fl d)
 |.nil,_=>rfl
 |.var n r,l=>by
   simp only[Ty.sh,Cu,PE hd];rw[show (if l.contains n=true then l.map (Fl d) else l.map (Fl d)++[Fl d n])=(if l.contains n=true then l else l++[n]).map (Fl d) by split <;> simp];exact Mv r _
 |.con _ k r,l=>by simp only[Ty.sh,Cu,Mv k,Mv r]
theorem KI(t:T1):An (t.sh d)=(An t).map (Fl d):=by unfold An;rw[← EU];exact Mv hd _ []
theorem Q6(n:Int):∀l:List Int,CR (l.map (Fl d)) (Fl d n)=CR l n
 | []=>rfl
 |k::l=>by simp only[List.map_cons,CR,K2 hd,Q6 n l]
theorem Jv(l:List Int)(y:Ty):∀x:Ty,De (l.map (Fl d)) (y.sh d) (x.sh d)=(De l y x).sh d
 |.nil=>rfl
 |.con tx k r=>by simp only[Ty.sh,De,Jv l y k,Jv l y r]
 |.var n r=>by
   simp only[Ty.sh,De,Q6 hd]
   have e:(CR l n).bind (y.sh d).get=((CR l n).bind y.get).map (T1.sh d):=by
     cases CR l n with
     |none=>rfl
     |some i=>exact Us y i
   rw[e]
   cases (CR l n).bind y.get with
   |none=>simp only[Option.map_none,Ty.sh,Jv l y r]
   |some t=>simp only[Option.map_some,JD,Jv l y r]
theorem Si(t:T1)(l:List Int)(y:Ty):Cg (t.sh d) (l.map (Fl d)) (y.sh d)=(Cg t l y).sh d:=by unfold Cg;rw[← EU,Jv hd,NN]
omit hd in
theorem H8(p p':Int→Bool)(hp:∀v,p' (Fl d v)=p v):∀l:List Int,(l.map (Fl d)).filter p'=(l.filter p).map (Fl d)
 | []=>rfl
 |a::l=>by
   simp only[List.map_cons,List.filter_cons,hp]
   split
   · simp only[List.map_cons,H8 p p' hp l]
   · exact H8 p p' hp l
theorem HV(vs:List Int):∀x:Ty,CJ (vs.map (Fl d)) (x.sh d)=CJ vs x
 |.nil=>rfl
 |.var n r=>by simp only[Ty.sh,CJ,Q6 hd,HV vs r]
 |.con tx .nil r=>by simp only[Ty.sh,CJ,HV vs r]
 |.con tx (.var n k) r=>by
   have:=HV vs (.var n k);simp only[Ty.sh] at this ⊢;simp only[CJ,Q6 hd,HV vs r] at this ⊢;rw[this]
 |.con tx (.con t2 k2 k) r=>by
   have:=HV vs (.con t2 k2 k);simp only[Ty.sh] at this ⊢;simp only[CJ,HV vs r];rw[this]
theorem ZX(t:T1):JR (t.sh d)=JR t:=by unfold JR;rw[KI hd,← EU,HV hd]
end
def Ty.on(p:Int→Bool):Ty→Bool
 |.nil=>true
 |.var n r=>p n&&r.on p
 |.con _ k r=>k.on p&&r.on p
abbrev Pf:Int→Bool:=λn=>decide (n≤0)
theorem Y4{d n:Int}(h:n≤0):Fl d n=n:=if_neg oM
theorem M7{d:Int}:∀x:Ty,x.on Pf=true→x.sh d=x
 |.nil,_=>rfl
 |.var n r,h=>by
   simp only[Ty.on,Bool.and_eq_true,decide_eq_true_eq] at h;simp only[Ty.sh,Y4 h.1,M7 r h.2]
 |.con _ k r,h=>by
   simp only[Ty.on,Bool.and_eq_true] at h;simp only[Ty.sh,M7 k h.1,M7 r h.2]
theorem ZK{d:Int}{t:T1}(h:t.one.on Pf=true):t.sh d=t:=by
 cases t with
 |var n =>
   simp only[T1.one,T1.cons,Ty.on,Bool.and_true,decide_eq_true_eq] at h;simp only[T1.sh,Y4 h]
 |con tx k =>
   simp only[T1.one,T1.cons,Ty.on,Bool.and_true] at h;simp only[T1.sh,M7 k h]
theorem QB{d:Int}:∀l:List Int,l.all Pf=true→l.map (Fl d)=l
 | [],_=>rfl
 |n::l,h=>by
   simp only[List.all_cons,Bool.and_eq_true,decide_eq_true_eq] at h;simp only[List.map_cons,Y4 h.1,QB l h.2]
def Bd.sh(d:Int)(b:Bd):Bd:=⟨b.name,b.t.sh d,b.all.map (Fl d)⟩
theorem VF{d:Int}:DA.map (Bd.sh d)=DA:=by
 have h:DA.all (λb=>b.t.one.on Pf&&b.all.all Pf)=true:=dC
 have:∀l:AD,l.all (λb=>b.t.one.on Pf&&b.all.all Pf)=true→l.map (Bd.sh d)=l:=by
   intro l
   induction l with
   |nil=>intro _;rfl
   |cons b l ih =>
     intro h;simp only[List.all_cons,Bool.and_eq_true] at h;simp only[List.map_cons,ih h.2,Bd.sh,ZK h.1.1,QB _ h.1.2]
 exact this _ h
def Mk.lo(m:Mk):Bool:=m.args.on Pf&&m.out.one.on Pf&&m.vars.all Pf
theorem Sa:iU.all (λp=>p.2.lo)=true:=dC
theorem Lq{α:Type}{p:lU×α→Bool}{n:lU}{v:α}:∀{l:List (lU×α)},l.all p=true→BM l n=some v→∃k,p (k,v)=true
 |(k,u)::l,h,hl=>by
   simp only[List.all_cons,Bool.and_eq_true] at h;unfold BM at hl
   split at hl
   · cases hl;exact⟨k,h.1⟩
   · exact Lq h.2 hl
structure C0(d:Int)(b0:Bn)(s s':CS):Prop where
 sol:Fi d b0 s.sol s'.sol
 fr:s'.fresh=s.fresh+d
 f0:0≤s.fresh
 cons:s'.cons=s.cons
 datas:s'.datas=s.datas
 roots:s'.roots=s.roots
 vars:s'.vars=s.vars
 lo:s.cons.all (λp=>p.2.lo)=true
 v0:s.vars≤0
def WE(d:Int)(b0:Bn)(ex:AD):Prop:=∀b,b∈ex→b.t.one.on (λv=>decide (0<v)&&decide (v≤d)&&(AW b0 v).isNone&&b.all.contains v)=true
def Ep(d:Int)(ex e e':AD):Prop:=∃l,e=l++DA∧e'=l.map (Bd.sh d)++(ex++DA)
abbrev QQ(ex:AD):List lU:=ex.map (·.name)
theorem Ep.cons{d:Int}{ex e e':AD}(h:Ep d ex e e')(b:Bd):Ep d ex (b::e) (b.sh d::e'):=let ⟨l,h1,h2⟩:=h;⟨b::l,by rw[h1];rfl,by rw[h2];rfl⟩
theorem J4(s:CS):∀a b:AD,AN s (a++b)=AN s a++AN s b
 | [],_=>rfl
 |x::a,b=>by simp only[List.cons_append,AN,J4 s a b,List.append_assoc]
theorem U7{b:Bn}{k:Nat}{a r:Ty}(h:BG b k (a.app r)=true):BG b k a=true:=by
 rw[Dp,Hp] at h;rw[Dp]
 cases hj:Bx b k a with
 |none=>rw[hj] at h;cases h
 |some j=>rfl
theorem Mu{b:Bn}:∀(k:Nat)(x:Ty),x.on (λv=>(AW b v).isNone)=true→BG b k x=true→AH b k x=x
 |k,.nil,_,_=>by cases k <;> rfl
 |0,.var _ _,_,h=>by cases h
 |0,.con _ _ _,_,h=>by cases h
 |k+1,.var n r,ho,h=>by
   simp only[Ty.on,Bool.and_eq_true,Option.isNone_iff_eq_none] at ho;simp only[BG,Dg ho.1] at h;simp only[AH,Dg ho.1,Mu k r ho.2 h]
 |k+1,.con tx ks r,ho,h=>by
   simp only[Ty.on,Bool.and_eq_true] at ho;simp only[BG] at h;simp only[AH,Mu k ks ho.1 (U7 h),Mu k r ho.2 (Uy h)]
theorem Ns{p q:Int→Bool}(h:∀n,p n=true→q n=true):∀x:Ty,x.on p=true→x.on q=true
 |.nil,_=>rfl
 |.var n r,hx=>by simp only[Ty.on,Bool.and_eq_true] at hx ⊢;exact⟨h n hx.1,Ns h r hx.2⟩
 |.con _ k r,hx=>by simp only[Ty.on,Bool.and_eq_true] at hx ⊢;exact⟨Ns h k hx.1,Ns h r hx.2⟩
theorem M1{p:Int→Bool}:∀(x:Ty)(l:List Int),x.on p=true→l.all p=true→(Cu x l).all p=true
 |.nil,_,_,h=>h
 |.var n r,l,hx,h=>by
   simp only[Ty.on,Bool.and_eq_true] at hx;refine M1 r _ hx.2 ?_
   split
   · exact h
   · simp[List.all_append,hx.1,h]
 |.con _ k r,l,hx,h=>by
   simp only[Ty.on,Bool.and_eq_true] at hx;exact M1 r _ hx.2 (M1 k _ hx.1 h)
section
variable{d:Int}(hd:0≤d){b0:Bn}{ex:AD}(hex:WE d b0 ex){s s':CS}{e e':AD}
include hd
omit hd in
theorem gB{b b':Bn}(h:Fi d b0 b b'){v:Int}(h1:0<v)(h2:v≤d)(h3:AW b0 v=none):AW b' v=none:=by
 rw[h.eq]
 have:∀b:Bn,AW (b.map (λp=>(Fl d p.1,p.2.sh d))++b0) v=none:=by
   intro b
   induction b with
   |nil=>exact h3
   |cons p b ih =>
     simp only[List.map_cons,List.cons_append,AW];rw[if_neg (by simp only[beq_iff_eq];intro e;unfold Fl at e;split at e <;> omega)];exact ih
 exact this b
include hex
omit hd in
theorem Z6(h:C0 d b0 s s'):AN s' ex=[]:=by
 have:∀l:AD,(∀b,b∈l→b∈ex)→AN s' l=[]:=by
   intro l
   induction l with
   |nil=>intro _;rfl
   |cons b l ih =>
     intro hl;have hb:=hex b (hl b (.head _));simp only[AN,ih (λx hx=>hl x (.tail _ hx)),List.append_nil];unfold Go.SP.fullS
     split
     · rfl
     · rename_i f hf
       split at hf
       · rename_i hs
         cases hf
         have h1:b.t.one.on (λv=>(AW s'.sol v).isNone)=true:=Ns (λn hn=>by
           simp only[Bool.and_eq_true,decide_eq_true_eq,Option.isNone_iff_eq_none] at hn ⊢;exact gB h.sol hn.1.1.1 hn.1.1.2 hn.1.2) _ hb
         rw[Mu _ _ h1 hs,show b.t.one.hd=b.t by cases b.t <;> rfl];have h2:(An b.t).all (λv=>b.all.contains v)=true:=M1 _ _ (Ns (λn hn=>by simp only[Bool.and_eq_true] at hn;exact hn.2) _ hb) rfl;rw[List.filter_eq_nil_iff];intro v hv;rw[List.all_eq_true.1 h2 v hv];decide
       · cases hf
 exact this ex λ_ h=>h
omit hex
theorem LB(h:C0 d b0 s s'):∀l:AD,AN s' (l.map (Bd.sh d))=(AN s l).map (Fl d)
 | []=>rfl
 |b::l=>by
   simp only[List.map_cons,AN,LB h l,List.map_append]
   congr 1
   show (match fullS s'.sol (b.t.sh d) with|none=>[]|some f=>(An f).filter λv=>!(b.all.map (Fl d)).contains v)=_;rw[h.sol.fullS hd]
   cases fullS s.sol b.t with
   |none=>rfl
   |some f =>
     simp only[Option.map_some,KI hd];exact H8 _ _ (λv=>by rw[PE hd]) _
include hex
theorem WK(h:C0 d b0 s s')(he:Ep d ex e e'):AN s' e'=(AN s e).map (Fl d):=by
 obtain⟨l,h1,h2⟩:=he;rw[h1,h2,J4,J4,J4,Z6 hex h,LB hd h,List.nil_append,List.map_append]
 congr 1
 have:=LB hd h DA;rwa[VF] at this
omit hex
omit hd in
theorem YV(he:Ep d ex e e'){tx:lU}(hn:(QQ ex).contains tx=false):CL e' tx=(CL e tx).map (Bd.sh d):=by
 obtain⟨l,h1,h2⟩:=he
 have hx:∀l r:AD,(QQ l).contains tx=false→CL (l++r) tx=CL r tx:=by
   intro l r
   induction l with
   |nil=>intro _;rfl
   |cons b l ih =>
     intro h;rw[QQ,List.map_cons,List.contains_cons,Bool.or_eq_false_iff] at h;simp only[List.cons_append,CL];rw[if_neg (by rw[beq_iff_eq];intro e;rw[e] at h;simp at h)];exact ih h.2
 have hm:∀l:AD,CL (l.map (Bd.sh d)) tx=(CL l tx).map (Bd.sh d):=by
   intro l
   induction l with
   |nil=>rfl
   |cons b l ih =>
     simp only[List.map_cons,CL];show (if b.name==tx then _ else _)=_
     split
     · rfl
     · exact ih
 have ha:∀(l r r':AD),CL r' tx=(CL r tx).map (Bd.sh d)→CL (l.map (Bd.sh d)++r') tx=(CL (l++r) tx).map (Bd.sh d):=by
   intro l r r' h
   induction l with
   |nil=>exact h
   |cons b l ih =>
     simp only[List.map_cons,List.cons_append,CL];show (if b.name==tx then _ else _)=_
     split
     · rfl
     · exact ih
 rw[h1,h2];refine ha l DA _ ?_;rw[hx ex DA hn];have:=hm DA;rwa[VF] at this
omit hd in
theorem G7(h:C0 d b0 s s'):(A2 s').1=(A2 s).1.sh d∧C0 d b0 (A2 s).2 (A2 s').2:=by
 have hf:=h.f0;refine⟨?_,{h with fr:=?_,f0:=?_}⟩
 · show T1.var (s'.fresh+1)=T1.var (Fl d (s.fresh+1))
   rw[h.fr];unfold Fl;rw[if_pos (by omega)];congr 1;omega
 · show s'.fresh+1=s.fresh+1+d
   rw[h.fr];omega
 · show 0≤s.fresh+1
   omega
variable {e1:AD}{s1:CS}{co co' ln ln':Int}
theorem FI(h:C0 d b0 s s'){a b:T1}(hh:Es s a b ln co=.ok s1):∃s1',Es s' (a.sh d) (b.sh d) ln' co'=.ok s1'∧C0 d b0 s1 s1':=by
 obtain⟨m,hm,rfl⟩:=VK hh;obtain⟨m',h1,h2⟩:=Ki hd 10000 h.sol hm;rw[EU,EU] at h1;exact⟨{s' with sol:=m' },by unfold Es FC;rw[h1],{h with sol:=h2}⟩
theorem Jl(h:C0 d b0 s s'){t f:T1}(hh:Eu s t ln co=.ok f):Eu s' (t.sh d) ln' co'=.ok (f.sh d):=by
 unfold Eu at hh ⊢;rw[h.sol.fullS hd]
 split at hh
 · cases hh
 · rename_i f' hf
   cases hh
   rw[hf];rfl
include hex
theorem KN(h:C0 d b0 s s')(he:Ep d ex e e'){tx:lU}{t:T1}{v:Bool}(hh:Ev s e tx t v ln co=.ok e1):∃e1',Ev s' e' tx (t.sh d) v ln' co'=.ok e1'∧Ep d ex e1 e1':=by
 unfold Ev at hh ⊢
 split at hh
 · rename_i hv
   rw[if_pos hv]
   split at hh
   · cases hh
   · rename_i f hf
     cases hh
     rw[Jl hd h (ln':=ln') (co':=co') hf];refine⟨_,rfl,?_⟩;have:=he.cons ⟨tx,f,(An f).filter λv=>!(AN s e).contains v⟩;rwa[Bd.sh,← H8 (λv=>!(AN s e).contains v) (λv=>!(AN s' e').contains v) (λv=>by rw[WK hd hex h he,PE hd]),← KI hd] at this
 · rename_i hv
   rw[if_neg hv]
   cases hh
   exact⟨_,rfl,he.cons ⟨tx,t,[]⟩⟩
omit hex
omit hd in
theorem Nr:∀(l l':List Int){s s':CS},C0 d b0 s s'→l'.length=l.length→(Bf l' s').1=(Bf l s).1.sh d∧C0 d b0 (Bf l s).2 (Bf l' s').2
 | [],[],_,_,h,_=>⟨rfl,h⟩
 | [],_::_,_,_,_,hl=>by simp at hl
 |_::_,[],_,_,_,hl=>by simp at hl
 |_::l,_::l',s,s',h,hl=>by
   obtain⟨h1,h2⟩:=G7 h;obtain⟨h3,h4⟩:=Nr l l' h2 (by simpa using hl);exact⟨by simp only[Bf,h1,h3,JD],h4⟩
theorem Tj(h:C0 d b0 s s'){tx:lU}{k:Nat}{a:Ty}{o:T1}(hh:GJ s tx k ln co=.ok (a,o,s1)):∃s1',GJ s' tx k ln' co'=.ok (a.sh d,o.sh d,s1')∧C0 d b0 s1 s1':=by
 unfold GJ at hh ⊢;rw[h.cons]
 split at hh
 · cases hh
 · rename_i m hm
   split at hh
   · rename_i hk
     cases hh
     obtain⟨_,hlo⟩:=Lq h.lo hm;simp only[Mk.lo,Bool.and_eq_true] at hlo;obtain⟨h1,h2⟩:=Nr m.vars m.vars h rfl;rw[if_pos hk];refine⟨_,?_,h2⟩;have e1:=Jv hd m.vars (Bf m.vars s).1 m.args;have e2:=Si hd m.out m.vars (Bf m.vars s).1;rw[QB _ hlo.2,M7 _ hlo.1.1,← h1] at e1;rw[QB _ hlo.2,ZK hlo.1.2,← h1] at e2;rw[e1,e2]
   · cases hh
theorem Zv(h:C0 d b0 s s')(he:Ep d ex e e'){tx:lU}(hn:(QQ ex).contains tx=false){t:T1}(hh:Ft s e tx ln co=.ok (t,s1)):∃s1',Ft s' e' tx ln' co'=.ok (t.sh d,s1')∧C0 d b0 s1 s1':=by
 unfold Ft at hh ⊢;rw[YV he hn]
 split at hh
 · cases hh
 · rename_i b hb
   rw[hb];simp only[Option.map_some]
   split at hh
   · cases hh
   · rename_i f hf
     have hf':=Jl hd h (ln':=ln') (co':=co') hf;rw[show (Bd.sh d b).t=b.t.sh d from rfl,hf']
     cases hh
     have e1:((An (f.sh d)).filter λv=>(b.all.map (Fl d)).contains v)=((An f).filter λv=>b.all.contains v).map (Fl d):=by
       rw[KI hd];exact H8 _ _ (λv=>by rw[PE hd]) _
     simp only;show ∃s1',Except.ok (Cg (f.sh d) ((An (f.sh d)).filter λv=>(b.all.map (Fl d)).contains v) (Bf ((An (f.sh d)).filter λv=>(b.all.map (Fl d)).contains v) s').1,(Bf ((An (f.sh d)).filter λv=>(b.all.map (Fl d)).contains v) s').2)=_∧_;rw[e1];obtain⟨h1,h2⟩:=Nr ((An f).filter λv=>b.all.contains v) (((An f).filter λv=>b.all.contains v).map (Fl d)) h (by simp);exact⟨_,by rw[h1,Si hd],h2⟩
end
theorem CO{k':Nd}(h:Nd.nil.er=k'.er):k'=.nil:=by cases k' with|nil=>rfl|cons _ _ _ _ _ _ _=>cases h
variable {co ln:Int}
theorem er_cons{op nm:Int}{tx:lU}{k r k':Nd}(h:(Nd.cons op ln co tx nm k r).er=k'.er):∃ln' co' kk rr,k'=.cons op ln' co' tx nm kk rr∧k.er=kk.er∧r.er=rr.er:=by
 cases k' with
 |nil=>cases h
 |cons op' ln' co' tx' nm' kk rr =>
   simp only[Nd.er,Nd.cons.injEq] at h;obtain⟨rfl,_,_,rfl,rfl,h1,h2⟩:=h;exact⟨ln',co',kk,rr,rfl,h1,h2⟩
theorem er_len{k k':Nd}(h:k.er=k'.er):k'.len=k.len:=by
 have:∀k:Nd,k.er.len=k.len:=by
   intro k
   induction k with
   |nil=>rfl
   |cons _ _ _ _ _ _ _ _ ih=>simp only[Nd.er,Nd.len,ih]
 rw[← this k,← this k',h]
theorem Vm{k k':Nd}(h:k.er=k'.er):k'.size=k.size:=by
 have:∀k:Nd,k.er.size=k.size:=by
   intro k
   induction k with
   |nil=>rfl
   |cons _ _ _ _ _ _ _ ih1 ih2=>simp only[Nd.er,Nd.size,ih1,ih2]
 rw[← this k,← this k',h]
theorem NL:∀(n:Nat)(op:Int)(k k':Nd),k.er=k'.er→BL n op k'=BL n op k
 |0,_,_,_,_=>rfl
 |n+1,op,k,k',h=>by
   have:∀k k':Nd,k.er=k'.er→Ov (BL n) k'=Ov (BL n) k:=by
     intro k
     induction k with
     |nil=>intro k' h;rw[CO h]
     |cons op ln co tx nm k r _ ih =>
       intro k' h;obtain⟨_,_,kk,rr,rfl,h1,h2⟩:=er_cons h;simp only[Ov,NL n op k kk h1,ih rr h2]
   simp only[BL,this k k' h]
def Nd.fre(xs:List lU):Nd→Bool
 |.nil=>true
 |.cons op _ _ tx _ k r=>(!(op==5)||!xs.contains tx)&&k.fre xs&&r.fre xs
section
variable{d:Int}(hd:0≤d){b0:Bn}{ex:AD}(hex:WE d b0 ex)
def mH(d:Int)(b0:Bn)(ex:AD)(p p':Kn):Prop:=∀⦃s s':CS⦄⦃e e':AD⦄⦃op ln co ln' co' nm:Int⦄⦃tx:lU⦄⦃k k':Nd⦄⦃t:T1⦄⦃s1:CS⦄,C0 d b0 s s'→Ep d ex e e'→k.er=k'.er→k.fre (QQ ex)=true→(op==5&&(QQ ex).contains tx)=false →
 p s e op ln co tx nm k=.ok (t,s1)→∃s1',p' s' e' op ln' co' tx nm k'=.ok (t.sh d,s1')∧C0 d b0 s1 s1'
def vH(d:Int)(b0:Bn)(ex:AD)(p p':Lo):Prop:=∀⦃s s':CS⦄⦃e e':AD⦄⦃op ln co ln' co' nm:Int⦄⦃tx:lU⦄⦃k k':Nd⦄⦃t:T1⦄⦃e1:AD⦄⦃s1:CS⦄,C0 d b0 s s'→Ep d ex e e'→k.er=k'.er →
 p s e op ln co tx nm k=.ok (t,e1,s1)→∃e1' s1',p' s' e' op ln' co' tx nm k'=.ok (t.sh d,e1',s1')∧Ep d ex e1 e1'∧C0 d b0 s1 s1'
variable {e' e1:AD}{s s' s1:CS}{co' ln':Int}{n:Nat}{k k' r:Nd}
theorem Bv{xs:List lU}{op nm:Int}{tx:lU}(h:(Nd.cons op ln co tx nm k r).fre xs=true):(op==5&&xs.contains tx)=false∧k.fre xs=true∧r.fre xs=true:=by
 simp only[Nd.fre,Bool.and_eq_true] at h;refine⟨?_,h.1.2,h.2⟩;have:=h.1.1
 cases h1:(op==5) <;> cases h2:xs.contains tx <;> simp_all
variable{p p':Kn}(hp:mH d b0 ex p p')
include hp
theorem M5:∀(k k':Nd){s s':CS}{e e':AD}{l:Ty}{s1:CS},C0 d b0 s s'→Ep d ex e e'→k.er=k'.er→k.fre (QQ ex)=true→D5 p e s k=.ok (l,s1)→∃s1',D5 p' e' s' k'=.ok (l.sh d,s1')∧C0 d b0 s1 s1'
 |.nil,k',_,_,_,_,_,_,hs,_,hk,_,h=>by rw[CO hk];cases h;exact⟨_,rfl,hs⟩
 |.cons op ln co tx nm k r,k',s,s',e,e',l,s1,hs,he,hk,hf,h=>by
   obtain⟨ln',co',kk,rr,rfl,h1,h2⟩:=er_cons hk;obtain⟨f1,f2,f3⟩:=Bv hf;unfold D5 at h
   split at h
   · cases h
   · rename_i ht
     split at h
     · cases h
     · rename_i hl
       cases h
       obtain⟨s2',e1,hs2⟩:=hp (ln':=ln') (co':=co') hs he h1 f2 f1 ht;obtain⟨s3',e2,hs3⟩:=M5 r rr hs2 he h2 f3 hl;exact⟨s3',by unfold D5;rw[e1];simp only;rw[e2,JD],hs3⟩
include hd
theorem RG:∀(k k':Nd){s s':CS}{e e':AD}{l:Ty}{s1:CS},C0 d b0 s s'→Ep d ex e e'→k.er=k'.er→k.fre (QQ ex)=true→EL p e s l k=.ok s1→∃s1',EL p' e' s' (l.sh d) k'=.ok s1'∧C0 d b0 s1 s1'
 |.nil,k',_,_,_,_,_,_,hs,_,hk,_,h=>by rw[CO hk];cases h;exact⟨_,rfl,hs⟩
 |.cons op ln co tx nm k r,k',s,s',e,e',l,s1,hs,he,hk,hf,h=>by
   obtain⟨ln',co',kk,rr,rfl,h1,h2⟩:=er_cons hk;obtain⟨f1,f2,f3⟩:=Bv hf;unfold EL at h
   split at h
   · cases h
   · rename_i ht
     split at h
     · cases h
     · rename_i hh
       obtain⟨s2',e1,hs2⟩:=hp (ln':=ln') (co':=co') hs he h1 f2 f1 ht;obtain⟨s3',e2,hs3⟩:=FI hd hs2 (ln':=ln') (co':=co') hh;obtain⟨s4',e3,hs4⟩:=RG r rr hs3 he h2 f3 h;exact⟨s4',by unfold EL;rw[e1];simp only;rw[NN,e2];simp only;rw[V8,e3],hs4⟩
theorem V0:∀(k k':Nd){s s':CS}{e e':AD}{t u:T1}{s1:CS},C0 d b0 s s'→Ep d ex e e'→k.er=k'.er→k.fre (QQ ex)=true→HS p e s t k=.ok (u,s1)→∃s1',HS p' e' s' (t.sh d) k'=.ok (u.sh d,s1')∧C0 d b0 s1 s1'
 |.nil,k',_,_,_,_,_,_,_,hs,_,hk,_,h=>by rw[CO hk];cases h;exact⟨_,rfl,hs⟩
 |.cons op ln co tx nm k r,k',s,s',e,e',t,u,s1,hs,he,hk,hf,h=>by
   obtain⟨ln',co',kk,rr,rfl,h1,h2⟩:=er_cons hk;obtain⟨f1,f2,f3⟩:=Bv hf;unfold HS at h
   split at h
   · cases h
   · rename_i a s2 ht
     split at h
     · cases h
     · rename_i hh
       obtain⟨s2',e1,hs2⟩:=hp (ln':=ln') (co':=co') hs he h1 f2 f1 ht;obtain⟨g1,g2⟩:=G7 hs2;obtain⟨s3',e2,hs3⟩:=FI hd g2 (ln':=ln') (co':=co') hh;obtain⟨s4',e3,hs4⟩:=V0 r rr hs3 he h2 f3 h;refine⟨s4',?_,hs4⟩;unfold HS;rw[e1];simp only;rw[show T1.con Dz ((a.sh d).cons (A2 s2').1.one)=(T1.con Dz (a.cons (A2 s2).1.one)).sh d by rw[g1,← EU,← JD];rfl,e2];simp only;rw[g1,e3]
theorem Vn{e:AD}{o l c l' c' m:Int}{tx x:lU}{t:T1}(hs:C0 d b0 s s')(he:Ep d ex e e')(hk:k.er=k'.er)(hf:k.fre (QQ ex)=true)(ho:(o==5&&(QQ ex).contains x)=false)(h:FK p s e ln co tx o l c x m k=.ok (t,s1)) :
   ∃s1',FK p' s' e' ln' co' tx o l' c' x m k'=.ok (t.sh d,s1')∧C0 d b0 s1 s1':=by
 unfold FK at h;obtain⟨g1,g2⟩:=G7 hs
 split at h
 · cases h
 · rename_i ht
   split at h
   · cases h
   · rename_i hh
     cases h
     obtain⟨s2',e1,hs2⟩:=hp (ln':=l') (co':=c') g2 (he.cons ⟨tx,(A2 s).1,[]⟩) hk hf ho ht;obtain⟨s3',e2,hs3⟩:=FI hd hs2 (ln':=ln') (co':=co') hh;refine⟨s3',?_,hs3⟩;unfold FK;rw[g1];rw[Bd.sh] at e1;simp only[List.map_nil] at e1;rw[e1];simp only;rw[e2]
omit hp
omit hd in
theorem Rx:∀(k k':Nd){s s':CS}{e e':AD},C0 d b0 s s'→Ep d ex e e'→k.er=k'.er→(D6 s' e' k').1=(D6 s e k).1.sh d∧Ep d ex (D6 s e k).2.1 (D6 s' e' k').2.1∧C0 d b0 (D6 s e k).2.2 (D6 s' e' k').2.2
 |.nil,k',_,_,_,_,hs,he,hk=>by rw[CO hk];exact⟨rfl,he,hs⟩
 |.cons op ln co tx nm k .nil,k',_,_,_,_,hs,he,hk=>by
   obtain⟨ln',co',kk,rr,rfl,h1,h2⟩:=er_cons hk;rw[CO h2];exact⟨rfl,he,hs⟩
 |.cons op ln co tx nm k (.cons o l c x m k2 r),k',s,s',e,e',hs,he,hk=>by
   obtain⟨ln',co',kk,rr,rfl,h1,h2⟩:=er_cons hk;obtain⟨l',c',kk2,rr2,rfl,h3,h4⟩:=er_cons h2;obtain⟨g1,g2⟩:=G7 hs
   have he2:Ep d ex (if op==22 then ⟨tx,(A2 s).1,[]⟩::e else e) (if op==22 then ⟨tx,(A2 s').1,[]⟩::e' else e'):=by
     split
     · rw[g1];exact he.cons ⟨tx,(A2 s).1,[]⟩
     · exact he
   obtain⟨i1,i2,i3⟩:=Rx (.cons o l c x m k2 r) (.cons o l' c' x m kk2 rr2) g2 he2 h2;exact⟨by simp only[D6] at i1 ⊢;rw[i1,g1,JD],i2,i3⟩
variable{q q':Lo}(hq:vH d b0 ex q q')
include hq
theorem OR:∀(k k':Nd){s s':CS}{e e' e1:AD}{l:Ty}{s1:CS},C0 d b0 s s'→Ep d ex e e'→k.er=k'.er→EG q s e l k=.ok (e1,s1)→∃e1' s1',EG q' s' e' (l.sh d) k'=.ok (e1',s1')∧Ep d ex e1 e1'∧C0 d b0 s1 s1'
 |.nil,k',_,_,_,_,_,_,_,hs,he,hk,h=>by rw[CO hk];cases h;exact⟨_,_,rfl,he,hs⟩
 |.cons op ln co tx nm k r,k',s,s',e,e',e1,l,s1,hs,he,hk,h=>by
   obtain⟨ln',co',kk,rr,rfl,h1,h2⟩:=er_cons hk;unfold EG at h
   split at h
   · cases h
   · rename_i ht
     split at h
     · cases h
     · rename_i hh
       obtain⟨e2',s2',i1,he2,hs2⟩:=hq (ln':=ln') (co':=co') hs he h1 ht;obtain⟨s3',i2,hs3⟩:=FI hd hs2 (ln':=ln') (co':=co') hh;obtain⟨e4',s4',i3,he4,hs4⟩:=OR r rr hs3 he2 h2 h;exact⟨e4',s4',by unfold EG;rw[i1];simp only;rw[NN,i2];simp only;rw[V8,i3],he4,hs4⟩
omit hd
theorem Pv:∀(k k':Nd){s s':CS}{e e' e1:AD}{l:Ty}{s1:CS},C0 d b0 s s'→Ep d ex e e'→k.er=k'.er→Ec q s e k=.ok (l,e1,s1)→∃e1' s1',Ec q' s' e' k'=.ok (l.sh d,e1',s1')∧Ep d ex e1 e1'∧C0 d b0 s1 s1'
 |.nil,k',_,_,_,_,_,_,_,hs,he,hk,h=>by rw[CO hk];cases h;exact⟨_,_,rfl,he,hs⟩
 |.cons op ln co tx nm k r,k',s,s',e,e',e1,l,s1,hs,he,hk,h=>by
   obtain⟨ln',co',kk,rr,rfl,h1,h2⟩:=er_cons hk;unfold Ec at h
   split at h
   · cases h
   · rename_i ht
     split at h
     · cases h
     · rename_i hl
       cases h
       obtain⟨e2',s2',i1,he2,hs2⟩:=hq (ln':=ln') (co':=co') hs he h1 ht;obtain⟨e4',s4',i3,he4,hs4⟩:=Pv r rr hs2 he2 h2 hl;exact⟨e4',s4',by unfold Ec;rw[i1];simp only;rw[i3,JD],he4,hs4⟩
include hd
theorem YY{e:AD}{op:Int}{tx:lU}{t:T1}(hs:C0 d b0 s s')(he:Ep d ex e e')(hk:k.er=k'.er)(h:CC q s e op ln co tx k=.ok (t,e1,s1)) :
   ∃e1' s1',CC q' s' e' op ln' co' tx k'=.ok (t.sh d,e1',s1')∧Ep d ex e1 e1'∧C0 d b0 s1 s1':=by
 obtain⟨g1,g2⟩:=G7 hs;unfold CC at h ⊢
 by_cases o1:(op==21)=true
 · rw[if_pos o1] at h ⊢;cases h;exact⟨_,_,by rw[g1],he,g2⟩
 rw[if_neg o1] at h ⊢
 by_cases o2:(op==22)=true
 · rw[if_pos o2] at h ⊢;cases h;exact⟨_,_,by rw[g1];rfl,he.cons ⟨tx,(A2 s).1,[]⟩,g2⟩
 rw[if_neg o2] at h ⊢
 by_cases o3:(op==23)=true
 · rw[if_pos o3] at h ⊢;cases h;exact⟨_,_,rfl,he,hs⟩
 rw[if_neg o3] at h ⊢
 by_cases o4:(op==24)=true
 · rw[if_pos o4] at h ⊢;cases h;exact⟨_,_,rfl,he,hs⟩
 rw[if_neg o4] at h ⊢
 by_cases o5:(op==25)=true
 · rw[if_pos o5] at h ⊢;cases h;exact⟨_,_,rfl,he,hs⟩
 rw[if_neg o5] at h ⊢
 by_cases o6:(op==26)=true
 · rw[if_pos o6] at h ⊢
   split at h
   · cases h
   rename_i hm
   split at h
   · cases h
   rename_i hc
   cases h
   obtain⟨s2',i1,hs2⟩:=Tj hd hs (ln':=ln') (co':=co') hm;obtain⟨e3',s3',i2,he3,hs3⟩:=OR hd hq k k' hs2 he hk hc;exact⟨e3',s3',by rw[er_len hk,i1];simp only;rw[i2],he3,hs3⟩
 rw[if_neg o6] at h ⊢
 by_cases o7:(op==27)=true
 · rw[if_pos o7] at h ⊢
   split at h
   · cases h
   rename_i hc
   cases h
   obtain⟨e3',s3',i2,he3,hs3⟩:=Pv hq k k' hs he hk hc;exact⟨e3',s3',by rw[i2];rfl,he3,hs3⟩
 rw[if_neg o7] at h ⊢
 cases h
 exact⟨_,_,rfl,he,hs⟩
omit hq
theorem VR:∀n,vH d b0 ex (Cl n) (Cl n)
 |0=>by intro s s' e e' op ln co ln' co' nm tx k k' t e1 s1 hs he hk h;cases h
 |n+1=>by
   intro s s' e e' op ln co ln' co' nm tx k k' t e1 s1 hs he hk h;unfold Cl at h
   split at h
   · cases h
   · rename_i h1
     split at h
     · cases h
     · rename_i h2
       cases h
       obtain⟨e2',s2',i1,he2,hs2⟩:=YY hd (VR n) hs he (ln':=ln') (co':=co') hk h1;exact⟨e2',s2',by unfold Cl;rw[i1];simp only;rw[Jl hd hs2 h2],he2,hs2⟩
include hp
theorem Lb{pt:T1}:∀(k k':Nd){s s':CS}{e e':AD}{t:Option T1}{u:T1}{s1:CS},C0 d b0 s s'→Ep d ex e e'→k.er=k'.er→k.fre (QQ ex)=true→C6 n p e pt s t k=.ok (u,s1)→∃s1',C6 n p' e' (pt.sh d) s' (t.map (T1.sh d)) k'=.ok (u.sh d,s1')∧C0 d b0 s1 s1'
 |.nil,k',_,_,_,_,t,_,_,hs,_,hk,_,h=>by
   rw[CO hk];unfold C6 at h ⊢;cases h;exact⟨_,by cases t <;> rfl,hs⟩
 |.cons op ln co tx nm ks r,k',s,s',e,e',t,u,s1,hs,he,hk,hf,h=>by
   obtain⟨ln',co',kk,rr,rfl,h1,h2⟩:=er_cons hk;obtain⟨_,f2,f3⟩:=Bv hf;unfold C6 at h
   split at h
   · rename_i o1 l1 c1 x1 m1 pk bop bln bco btx bnm bk brest
     obtain⟨l1',c1',pk',rest',rfl,h3,h4⟩:=er_cons h1;obtain⟨bln',bco',bk',brest',rfl,h5,h6⟩:=er_cons h4;obtain⟨_,f4,f5⟩:=Bv f2;obtain⟨f6,f7,f8⟩:=Bv f5
     split at h
     · cases h
     · rename_i a1
       split at h
       · cases h
       · rename_i a2
         split at h
         · cases h
         · rename_i rt s4 a3
           obtain⟨e2',s2',i1,he2,hs2⟩:=VR hd n (ln':=l1') (co':=c1') hs he h3 a1;obtain⟨s3',i2,hs3⟩:=FI hd hs2 (ln':=l1') (co':=c1') a2;obtain⟨s4',i3,hs4⟩:=hp (ln':=bln') (co':=bco') hs3 he2 h5 f7 f6 a3
           cases t with
           |some t0 =>
             simp only at h
             split at h
             · cases h
             · rename_i a4
               obtain⟨s5',i4,hs5⟩:=FI hd hs4 (ln':=bln') (co':=bco') a4;obtain⟨s6',i5,hs6⟩:=Lb r rr hs5 he h2 f3 h;refine⟨s6',?_,hs6⟩;unfold C6;simp only[Option.map_some] at i5 ⊢;rw[i1];simp only;rw[i2];simp only;rw[i3];simp only;rw[i4];simp only;rw[i5]
           |none =>
             simp only at h;obtain⟨s6',i5,hs6⟩:=Lb r rr hs4 he h2 f3 h;refine⟨s6',?_,hs6⟩;unfold C6;simp only[Option.map_none,Option.map_some] at i5 ⊢;rw[i1];simp only;rw[i2];simp only;rw[i3];simp only;rw[i5]
   · rename_i hno
     cases h
     refine⟨s',?_,hs⟩
     cases kk with
     |nil=>unfold C6;cases t <;> rfl
     |cons o1 l1 c1 x1 m1 pk rest =>
       cases rest with
       |nil=>unfold C6;cases t <;> rfl
       |cons o2 l2 c2 x2 m2 k2 r2 =>
         exfalso;obtain⟨_,_,q1,q2,rfl,_,h4⟩:=er_cons h1.symm;obtain⟨_,_,q3,q4,rfl,_,_⟩:=er_cons h4;exact hno _ _ _ _ _ _ _ _ _ _ _ _ _ rfl
end
theorem Vw:∀(k k':Nd),k.er=k'.er→match k.last with
   |none=>k'.last=none
   |some b=>∃b',k'.last=some b'∧b'.op=b.op∧b'.tx=b.tx∧b'.nm=b.nm∧b.kids.er=b'.kids.er
 |.nil,k',h=>by rw[CO h];rfl
 |.cons op ln co tx nm k .nil,k',h=>by
   obtain⟨ln',co',kk,rr,rfl,h1,h2⟩:=er_cons h;rw[CO h2];exact⟨_,rfl,rfl,rfl,rfl,h1⟩
 |.cons op ln co tx nm k (.cons o l c x m k2 r),k',h=>by
   obtain⟨ln',co',kk,rr,rfl,h1,h2⟩:=er_cons h;obtain⟨l',c',kk2,rr2,rfl,h3,h4⟩:=er_cons h2;exact Vw (.cons o l c x m k2 r) (.cons o l' c' x m kk2 rr2) h2
theorem Sz{xs:List lU}:∀(k:Nd){b:N},k.fre xs=true→k.last=some b→b.kids.fre xs=true∧(b.op==5&&xs.contains b.tx)=false
 |.cons op ln co tx nm k .nil,b,h,hl=>by
   obtain⟨f1,f2,_⟩:=Bv h
   cases hl
   exact⟨f2,f1⟩
 |.cons op ln co tx nm k (.cons o l c x m k2 r),b,h,hl=>Sz (.cons o l c x m k2 r) (Bv h).2.2 hl
section
variable{d:Int}(hd:0≤d){b0:Bn}{ex:AD}(hex:WE d b0 ex){p p':Kn}(hp:mH d b0 ex p p')
include hd hex hp
variable {e':AD}{s s' s1:CS}{co' ln':Int}{n:Nat}{k k':Nd}
theorem Zl{e:AD}{op:Int}{tx:lU}{t:T1}(hs:C0 d b0 s s')(he:Ep d ex e e')(hk:k.er=k'.er)(hf:k.fre (QQ ex)=true)(ho:(op==5&&(QQ ex).contains tx)=false)
   (h:Bg n p s e op ln co tx k=.ok (t,s1)):∃s1',Bg n p' s' e' op ln' co' tx k'=.ok (t.sh d,s1')∧C0 d b0 s1 s1':=by
 unfold Bg at h ⊢
 by_cases o1:(op==1)=true
 · rw[if_pos o1] at h ⊢
   cases h;exact⟨_,rfl,hs⟩
 rw[if_neg o1] at h ⊢
 by_cases o2:(op==2)=true
 · rw[if_pos o2] at h ⊢
   cases h;exact⟨_,rfl,hs⟩
 rw[if_neg o2] at h ⊢
 by_cases o3:(op==3)=true
 · rw[if_pos o3] at h ⊢
   cases h;exact⟨_,rfl,hs⟩
 rw[if_neg o3] at h ⊢
 by_cases o4:(op==4)=true
 · rw[if_pos o4] at h ⊢
   cases h;exact⟨_,rfl,hs⟩
 rw[if_neg o4] at h ⊢
 by_cases o5:(op==5)=true
 · rw[if_pos o5] at h ⊢
   exact Zv hd hs he (by rw[o5,Bool.true_and] at ho;exact ho) h
 rw[if_neg o5] at h ⊢
 by_cases o6:(op==6)=true
 · rw[if_pos o6] at h ⊢
   split at h
   · cases h
   rename_i hm
   split at h
   · cases h
   rename_i hc
   cases h
   obtain⟨s2',i1,hs2⟩:=Tj hd hs (ln':=ln') (co':=co') hm;obtain⟨s3',i2,hs3⟩:=RG hd hp k k' hs2 he hk hf hc;exact⟨s3',by rw[er_len hk,i1];simp only;rw[i2],hs3⟩
 rw[if_neg o6] at h ⊢
 by_cases o7:(op==7)=true
 · rw[if_pos o7] at h ⊢
   have hl:=Vw k k' hk;have hfl:=@Sz (QQ ex) k
   split at h
   · rename_i hn
     rw[hn] at hl;simp only at hl;rw[hl]
     cases h
     exact⟨_,rfl,hs⟩
   · rename_i b hb
     rw[hb] at hl;obtain⟨b',hb',e1,e2,e3,e4⟩:=hl;obtain⟨f1,f2⟩:=hfl hf hb;rw[hb'];obtain⟨p1,p2,p3⟩:=Rx k k' hs he hk;simp only at h ⊢
     split at h
     · cases h
     rename_i hx
     cases h
     obtain⟨s2',i1,hs2⟩:=hp (ln':=b'.ln) (co':=b'.co) p3 p2 e4 f1 f2 hx;refine⟨s2',?_,hs2⟩;rw[e1,e2,e3,i1];simp only[Ty.snoc];rw[p1,← EU,← HW,MM]
 rw[if_neg o7] at h ⊢
 by_cases o8:(op==8)=true
 · rw[if_pos o8] at h ⊢
   split at h
   · rw[CO hk];cases h;exact⟨_,rfl,hs⟩
   rename_i o l c x m k1 r;obtain⟨l1',c1',kk,rr,rfl,h1,h2⟩:=er_cons hk;obtain⟨f1,f2,f3⟩:=Bv hf
   split at h
   · cases h
   rename_i hx;obtain⟨s2',i1,hs2⟩:=hp (ln':=l1') (co':=c1') hs he h1 f2 f1 hx;obtain⟨s3',i2,hs3⟩:=V0 hd hp r rr hs2 he h2 f3 h;exact⟨s3',by simp only;rw[i1];simp only;rw[i2],hs3⟩
 rw[if_neg o8] at h ⊢
 by_cases o9:(op==9)=true
 · rw[if_pos o9] at h ⊢
   split at h
   · rename_i o l c x m k1 o2 l2 c2 x2 m2 k2 r
     obtain⟨l1',c1',kk,rr,rfl,h1,h2⟩:=er_cons hk;obtain⟨l2',c2',kk2,rr2,rfl,h3,h4⟩:=er_cons h2;obtain⟨f1,f2,f3⟩:=Bv hf;obtain⟨f4,f5,f6⟩:=Bv f3
     split at h
     · cases h
     rename_i t1 s2 hx;obtain⟨s2',i1,hs2⟩:=hp (ln':=l1') (co':=c1') hs he h1 f2 f1 hx
     split at h
     · cases h
     rename_i e1 hw
     have hw':∃e1',(if tx==[95] then .ok e' else Ev s2' e' tx (t1.sh d) (BL (n+1) o kk) ln' co')=(.ok e1':RI AD)∧Ep d ex e1 e1':=by
       rw[NL (n+1) o k1 kk h1]
       split at hw
       · rename_i hb;rw[if_pos hb];cases hw;exact⟨_,rfl,he⟩
       · rename_i hb;rw[if_neg hb];exact KN hd hex hs2 he hw
     obtain⟨e1',i2,he2⟩:=hw';obtain⟨s3',i3,hs3⟩:=hp (ln':=l2') (co':=c2') hs2 he2 h3 f5 f4 h;exact⟨s3',by simp only;rw[i1];simp only;rw[i2];simp only;rw[i3],hs3⟩
   · rename_i hno
     cases h
     refine⟨s',?_,hs⟩
     cases k' with
     |nil=>rfl
     |cons o1 l1 c1 x1 m1 pk rest =>
       cases rest with
       |nil=>rfl
       |cons o2 l2 c2 x2 m2 k2 r2 =>
         exfalso;obtain⟨_,_,q1,q2,rfl,_,h4⟩:=er_cons hk.symm;obtain⟨_,_,q3,q4,rfl,_,_⟩:=er_cons h4;exact hno _ _ _ _ _ _ _ _ _ _ _ _ _ rfl
 rw[if_neg o9] at h ⊢
 by_cases o10:(op==10)=true
 · rw[if_pos o10] at h ⊢
   split at h
   · rename_i o l c x m k1 o2 l2 c2 x2 m2 k2 r
     obtain⟨l1',c1',kk,rr,rfl,h1,h2⟩:=er_cons hk;obtain⟨l2',c2',kk2,rr2,rfl,h3,h4⟩:=er_cons h2;obtain⟨f1,f2,f3⟩:=Bv hf;obtain⟨f4,f5,f6⟩:=Bv f3
     split at h
     · cases h
     rename_i hx;obtain⟨s2',i1,hs2⟩:=Vn hd hp hs he (ln':=ln') (co':=co') (l':=l1') (c':=c1') h1 f2 f1 hx
     split at h
     · cases h
     rename_i hw;obtain⟨e1',i2,he2⟩:=KN hd hex hs2 he (ln':=ln') (co':=co') hw;obtain⟨s3',i3,hs3⟩:=hp (ln':=l2') (co':=c2') hs2 he2 h3 f5 f4 h;exact⟨s3',by simp only;rw[i1];simp only;rw[i2];simp only;rw[i3],hs3⟩
   · rename_i hno
     cases h
     refine⟨s',?_,hs⟩
     cases k' with
     |nil=>rfl
     |cons o1 l1 c1 x1 m1 pk rest =>
       cases rest with
       |nil=>rfl
       |cons o2 l2 c2 x2 m2 k2 r2 =>
         exfalso;obtain⟨_,_,q1,q2,rfl,_,h4⟩:=er_cons hk.symm;obtain⟨_,_,q3,q4,rfl,_,_⟩:=er_cons h4;exact hno _ _ _ _ _ _ _ _ _ _ _ _ _ rfl
 rw[if_neg o10] at h ⊢
 by_cases o11:(op==11)=true
 · rw[if_pos o11] at h ⊢
   split at h
   · rename_i o l c x m k1 o2 l2 c2 x2 m2 k2 o3 l3 c3 x3 m3 k3 r
     obtain⟨l1',c1',kk,rr,rfl,h1,h2⟩:=er_cons hk;obtain⟨l2',c2',kk2,rr2,rfl,h3,h4⟩:=er_cons h2;obtain⟨l3',c3',kk3,rr3,rfl,h5,h6⟩:=er_cons h4;obtain⟨f1,f2,f3⟩:=Bv hf;obtain⟨f4,f5,f6⟩:=Bv f3;obtain⟨f7,f8,f9⟩:=Bv f6
     split at h
     · cases h
     rename_i hx;obtain⟨s2',i1,hs2⟩:=hp (ln':=l1') (co':=c1') hs he h1 f2 f1 hx
     split at h
     · cases h
     rename_i hh;obtain⟨s3',i2,hs3⟩:=FI hd hs2 (ln':=l1') (co':=c1') hh
     split at h
     · cases h
     rename_i hx2;obtain⟨s4',i3,hs4⟩:=hp (ln':=l2') (co':=c2') hs3 he h3 f5 f4 hx2
     split at h
     · cases h
     rename_i hx3;obtain⟨s5',i4,hs5⟩:=hp (ln':=l3') (co':=c3') hs4 he h5 f8 f7 hx3
     split at h
     · cases h
     rename_i hh2
     cases h
     obtain⟨s6',i5,hs6⟩:=FI hd hs5 (ln':=l3') (co':=c3') hh2;refine⟨s6',?_,hs6⟩;simp only;rw[i1];simp only;rw[show c0 bB=(c0 bB).sh d from rfl,i2];simp only;rw[i3];simp only;rw[i4];simp only;rw[i5]
   · rename_i hno
     cases h
     refine⟨s',?_,hs⟩
     cases k' with
     |nil=>rfl
     |cons o1 l1 c1 x1 m1 pk rest =>
       cases rest with
       |nil=>rfl
       |cons o2 l2 c2 x2 m2 k2 r2 =>
         cases r2 with
         |nil=>rfl
         |cons o3 l3 c3 x3 m3 k3 r3 =>
           exfalso;obtain⟨_,_,q1,q2,rfl,_,h4⟩:=er_cons hk.symm;obtain⟨_,_,q3,q4,rfl,_,h5⟩:=er_cons h4;obtain⟨_,_,q5,q6,rfl,_,_⟩:=er_cons h5;exact hno _ _ _ _ _ _ _ _ _ _ _ _ _ _ _ _ _ _ _ rfl
 rw[if_neg o11] at h ⊢
 by_cases o12:(op==12)=true
 · rw[if_pos o12] at h ⊢
   split at h
   · cases h
   rename_i hx
   cases h
   obtain⟨s2',i1,hs2⟩:=M5 hp k k' hs he hk hf hx;exact⟨s2',by rw[i1];simp only;rw[Lc],hs2⟩
 rw[if_neg o12] at h ⊢
 by_cases o13:(op==13)=true
 · rw[if_pos o13] at h ⊢
   split at h
   · cases h
   rename_i hx
   cases h
   obtain⟨s2',i1,hs2⟩:=M5 hp k k' hs he hk hf hx;exact⟨s2',by rw[i1];rfl,hs2⟩
 rw[if_neg o13] at h ⊢
 by_cases o14:(op==14)=true
 · rw[if_pos o14] at h ⊢
   split at h
   · rw[CO hk];cases h;exact⟨_,rfl,hs⟩
   rename_i o l c x m k1 r;obtain⟨l1',c1',kk,rr,rfl,h1,h2⟩:=er_cons hk;obtain⟨f1,f2,f3⟩:=Bv hf
   split at h
   · cases h
   rename_i hx;obtain⟨s2',i1,hs2⟩:=hp (ln':=l1') (co':=c1') hs he h1 f2 f1 hx;obtain⟨s3',i2,hs3⟩:=Lb hd hp r rr hs2 he h2 f3 h;exact⟨s3',by simp only;rw[i1];simp only;exact i2,hs3⟩
 rw[if_neg o14] at h ⊢
 by_cases o15:(op==15)=true
 · rw[if_pos o15] at h ⊢
   split at h
   · rw[CO hk];cases h;exact⟨_,rfl,hs⟩
   rename_i o l c x m k1 r;obtain⟨l1',c1',kk,rr,rfl,h1,h2⟩:=er_cons hk;obtain⟨f1,f2,f3⟩:=Bv hf
   split at h
   · cases h
   rename_i hx;obtain⟨s2',i1,hs2⟩:=hp (ln':=l1') (co':=c1') hs he h1 f2 f1 hx;obtain⟨s3',i2,hs3⟩:=Lb hd hp r rr hs2 he h2 f3 h;exact⟨s3',by simp only;rw[i1];simp only;exact i2,hs3⟩
 rw[if_neg o15] at h ⊢
 by_cases o16:(op==16)=true
 · rw[if_pos o16] at h ⊢
   split at h
   · rw[CO hk];cases h;exact⟨_,rfl,hs⟩
   rename_i o l c x m k1 r;obtain⟨l1',c1',kk,rr,rfl,h1,h2⟩:=er_cons hk;obtain⟨f1,f2,f3⟩:=Bv hf
   split at h
   · cases h
   rename_i hx;obtain⟨s2',i1,hs2⟩:=hp (ln':=l1') (co':=c1') hs he h1 f2 f1 hx
   split at h
   · cases h
   rename_i s3 hh
   cases h
   obtain⟨s3',i2,hs3⟩:=FI hd hs2 (ln':=l1') (co':=c1') hh;obtain⟨g1,g2⟩:=G7 hs3;exact⟨(A2 s3').2,by simp only;rw[i1];simp only;rw[show c0 bX=(c0 bX).sh d from rfl,i2];simp only;exact congrArg (λz=>Except.ok (z,(A2 s3').2)) g1,g2⟩
 rw[if_neg o16] at h ⊢
 split at h
 · rw[CO hk];cases h;exact⟨_,rfl,hs⟩
 rename_i o l c x m k1 r;obtain⟨l1',c1',kk,rr,rfl,h1,h2⟩:=er_cons hk;obtain⟨f1,f2,f3⟩:=Bv hf;obtain⟨s2',i1,hs2⟩:=hp (ln':=l1') (co':=c1') hs he h1 f2 f1 h;exact⟨s2',i1,hs2⟩
omit hp
theorem KX:∀n,mH d b0 ex (BT n) (BT n)
 |0=>by intro s s' e e' op ln co ln' co' nm tx k k' t s1 hs he hk hf ho h;cases h
 |n+1=>by
   intro s s' e e' op ln co ln' co' nm tx k k' t s1 hs he hk hf ho h;unfold BT at h
   split at h
   · cases h
   · rename_i h1
     split at h
     · cases h
     · rename_i h2
       cases h
       obtain⟨s2',i1,hs2⟩:=Zl hd hex (KX n) hs he (ln':=ln') (co':=co') hk hf ho h1;exact⟨s2',by unfold BT;rw[i1];simp only;rw[Jl hd hs2 h2],hs2⟩
end
def qD(m:List (lU×T1)):Bool:=m.all λp=>p.2.one.on Pf
theorem dA{p:Int→Bool}{t:T1}{r:Ty}(h1:t.one.on p=true)(h2:r.on p=true):(t.cons r).on p=true:=by
 cases t with
 |var n=>simp only[T1.one,T1.cons,Ty.on,Bool.and_true] at h1 ⊢;rw[h1,h2];rfl
 |con tx k=>simp only[T1.one,T1.cons,Ty.on,Bool.and_true] at h1 ⊢;rw[h1,h2];rfl
theorem UH{p:Int→Bool}:∀x y:Ty,x.on p=true→y.on p=true→(x.app y).on p=true
 |.nil,_,_,h=>h
 |.var n r,y,hx,hy=>by simp only[Ty.on,Bool.and_eq_true] at hx;simp only[Ty.app,Ty.on,hx.1,UH r y hx.2 hy];rfl
 |.con _ k r,y,hx,hy=>by simp only[Ty.on,Bool.and_eq_true] at hx;simp only[Ty.app,Ty.on,hx.1,UH r y hx.2 hy];rfl
theorem P0{ds:List (lU×Int)}{m:List (lU×T1)}(hm:qD m=true):∀(k k':Nd){l:Ty},k.er=k'.er→Fw ds m k=.ok l→Fw ds m k'=.ok l∧l.on Pf=true
 |.nil,k',l,h,ht=>by rw[CO h];cases ht;exact⟨rfl,rfl⟩
 |.cons op ln co tx nm k r,k',l,h,ht=>by
   obtain⟨ln',co',kk,rr,rfl,h1,h2⟩:=er_cons h;have hlen:=er_len h1;rw[H7] at ht ⊢
   split at ht
   · cases ht
   rename_i t hone
   split at ht
   · cases ht
   rename_i l2 hr
   cases ht
   obtain⟨r1,r2⟩:=P0 hm r rr h2 hr
   have key:CB ds m op ln' co' tx kk=.ok t∧t.one.on Pf=true:=by
     unfold CB at hone ⊢
     by_cases ho:(op==31)=true
     · rw[if_pos ho] at hone ⊢
       split at hone
       · rename_i t2 hl
         cases hone
         obtain⟨_,h3⟩:=Lq hm hl;exact⟨rfl,h3⟩
       · cases hone
     · rw[if_neg ho] at hone ⊢
       rw[show JQ ds tx kk=JQ ds tx k by unfold JQ;rw[hlen]]
       split at hone
       · rename_i hc
         rw[if_pos hc]
         split at hone
         · cases hone
         · rename_i k2 hk
           cases hone
           obtain⟨r3,r4⟩:=P0 hm k kk h1 hk;rw[r3];exact⟨rfl,by simp only[T1.one,T1.cons,Ty.on,r4];rfl⟩
       · cases hone
   rw[key.1];simp only;rw[r1];exact⟨rfl,dA key.2 r2⟩
variable {e1:AD}{s1:CS}{co' ln':Int}{nums:List Int}{k k':Nd}
theorem NA:∀(k k':Nd){v v2:Int}{m m2:List (lU×T1)}{self self2:Ty}{nums nums2:List Int},k.er=k'.er→v≤0→qD m=true→self.on Pf=true→nums.all Pf=true→D0 ln co k v m self nums=.ok (v2,m2,self2,nums2) →
   D0 ln' co' k' v m self nums=.ok (v2,m2,self2,nums2)∧v2≤0∧qD m2=true∧self2.on Pf=true∧nums2.all Pf=true
 |.nil,k',_,_,_,_,_,_,_,_,hk,h1,h2,h3,h4,h=>by rw[CO hk];cases h;exact⟨rfl,h1,h2,h3,h4⟩
 |.cons op l c tx nm k r,k',v,v2,m,m2,self,self2,nums,nums2,hk,h1,h2,h3,h4,h=>by
   obtain⟨l',c',kk,rr,rfl,_,hr⟩:=er_cons hk;unfold D0 at h ⊢
   split at h
   · rename_i ho
     rw[if_pos ho]
     split at h
     · cases h
     · rename_i hl
       rw[if_neg hl];have hv:(T1.var (v-1)).one.on Pf=true:=by simp only[T1.one,T1.cons,Ty.on,Bool.and_true,decide_eq_true_eq];omega
       exact NA r rr hr oM (by simp only[qD,List.all_cons,hv];exact h2) (UH _ _ h3 hv) (by rw[List.all_append,h4];simp only[List.all_cons,List.all_nil,Bool.and_true,Bool.true_and,decide_eq_true_eq];omega) h
   · rename_i ho
     rw[if_neg ho];exact NA r rr hr h1 h2 h3 h4 h
theorem NB{ds:List (lU×Int)}{m:List (lU×T1)}{out:T1}(hm:qD m=true)(ho:out.one.on Pf=true)(hn:nums.all Pf=true):∀(k k':Nd){c c2:List (lU×Mk)},k.er=k'.er→c.all (λp=>p.2.lo)=true→Dh ds m out nums k c=.ok c2 →
   Dh ds m out nums k' c=.ok c2∧c2.all (λp=>p.2.lo)=true
 |.nil,k',_,_,hk,h1,h=>by rw[CO hk];cases h;exact⟨rfl,h1⟩
 |.cons op l c tx nm k r,k',cs,c2,hk,h1,h=>by
   obtain⟨l',c',kk,rr,rfl,hkk,hr⟩:=er_cons hk;unfold Dh at h ⊢
   split at h
   · rename_i ho2
     rw[if_pos ho2]
     split at h
     · cases h
     · rename_i hl
       rw[if_neg hl]
       split at h
       · cases h
       · rename_i args ha
         obtain⟨a1,a2⟩:=P0 hm k kk hkk ha;rw[a1];exact NB hm ho hn r rr hr (by simp only[List.all_cons,Mk.lo,a2,ho,hn];exact h1) h
   · rename_i ho2
     rw[if_neg ho2];exact NB hm ho hn r rr hr h1 h
section
variable{d:Int}(hd:0≤d){b0:Bn}{ex:AD}{s s':CS}{e e':AD}
theorem bK(h:C0 d b0 s s'){tx:lU}(hk:k.er=k'.er)(hh:FQ s ln co tx k=.ok s1):∃s1',FQ s' ln' co' tx k'=.ok s1'∧C0 d b0 s1 s1':=by
 unfold FQ at hh ⊢;rw[h.datas,h.vars,h.cons]
 split at hh
 · cases hh
 rename_i h1;rw[if_neg h1]
 split at hh
 · cases hh
 rename_i v m self nums hv;obtain⟨a1,a2,a3,a4,a5⟩:=NA (ln':=ln') (co':=co') k k' hk h.v0 rfl rfl rfl hv;rw[a1];simp only at hh ⊢
 split at hh
 · cases hh
 rename_i cons hc
 cases hh
 obtain⟨c1,c2⟩:=NB a3 (by simp only[T1.one,T1.cons,Ty.on,a4];rfl) a5 k k' hk h.lo hc;rw[c1];exact⟨_,rfl,{h with cons:=rfl,datas:=rfl,vars:=rfl,lo:=c2,v0:=a2}⟩
include hd
variable(hex:WE d b0 ex)
include hex
theorem QN(hs:C0 d b0 s s')(he:Ep d ex e e'){op:Int}{tx:lU}{o:Option (lU×T1)}(hk:k.er=k'.er)(hf:k.fre (QQ ex)=true)(h:CG s e op ln co tx k=.ok (o,e1,s1)) :
   ∃e1' s1',CG s' e' op ln' co' tx k'=.ok (o.map λb=>(b.1,b.2.sh d),e1',s1')∧Ep d ex e1 e1'∧C0 d b0 s1 s1':=by
 unfold CG at h ⊢
 by_cases o1:(op==41)=true
 · rw[if_pos o1] at h ⊢
   split at h
   · cases h
   rename_i hdt
   cases h
   obtain⟨s1',i1,hs1⟩:=bK hs (ln':=ln') (co':=co') hk hdt;exact⟨e',s1',by rw[i1];rfl,he,hs1⟩
 rw[if_neg o1] at h ⊢
 split at h
 · rw[CO hk];cases h;exact⟨_,_,rfl,he,hs⟩
 rename_i o' l c x m k1 r;obtain⟨l',c',kk,rr,rfl,h1,h2⟩:=er_cons hk;obtain⟨f1,f2,f3⟩:=Bv hf;simp only at h ⊢;rw[Vm h1]
 by_cases o2:(op==43)=true
 · rw[if_pos o2] at h ⊢
   rw[hs.roots,hs.datas]
   split at h
   · cases h
   rename_i hr;rw[if_neg hr]
   split at h
   · cases h
   rename_i w hw;obtain⟨a1,a2⟩:=P0 (m:=[]) rfl (.cons o' l c x m k1 .nil) (.cons o' l' c' x m kk .nil) (by simp only[Nd.er,h1]) hw;rw[a1];simp only
   split at h
   · cases h
     rw[CO h2];exact⟨_,_,rfl,he,hs⟩
   rename_i o2' l2 c2 x2 m2 k2 r2;obtain⟨l2',c2',kk2,rr2,rfl,h3,h4⟩:=er_cons h2;obtain⟨f4,f5,f6⟩:=Bv f3;simp only at h ⊢;rw[Vm h3]
   split at h
   · cases h
   rename_i hx;have hs2:C0 d b0 {s with roots:=tx::s.roots} {s' with roots:=tx::s.roots}:={hs with roots:=rfl};obtain⟨s3',i1,hs3⟩:=KX hd hex _ hs2 he (ln':=l2') (co':=c2') h3 f5 f4 hx
   split at h
   · cases h
   rename_i hh
   cases h
   obtain⟨s4',i2,hs4⟩:=FI hd hs3 (ln':=ln') (co':=co') hh;rw[hs.datas] at i1;rw[i1];simp only;rw[← NN,M7 w a2] at i2;rw[i2];simp only;have e5:(T1.con CA w).sh d=T1.con CA w:=by simp only[T1.sh,M7 w a2]
   have he5:=he.cons ⟨tx,.con CA w,[]⟩;simp only[Bd.sh,e5,List.map_nil] at he5;exact⟨_,_,by simp only[Option.map_some,e5],he5,hs4⟩
 rw[if_neg o2] at h ⊢
 by_cases o3:(op==44)=true
 · rw[if_pos o3] at h ⊢
   split at h
   · cases h
   rename_i hx;obtain⟨s2',i1,hs2⟩:=KX hd hex _ hs he (ln':=l') (co':=c') h1 f2 f1 hx
   split at h
   · cases h
   rename_i hw
   cases h
   obtain⟨e2',i2,he2⟩:=KN hd hex hs2 he (ln':=ln') (co':=co') hw;rw[i1];simp only;rw[NL _ o' k1 kk h1,i2];exact⟨_,_,rfl,he2,hs2⟩
 rw[if_neg o3] at h ⊢
 by_cases o4:(op==45)=true
 · rw[if_pos o4] at h ⊢
   split at h
   · cases h
   rename_i hx;obtain⟨s2',i1,hs2⟩:=Vn hd (KX hd hex _) hs he (ln':=ln') (co':=co') (l':=l') (c':=c') h1 f2 f1 hx
   split at h
   · cases h
   rename_i hw
   cases h
   obtain⟨e2',i2,he2⟩:=KN hd hex hs2 he (ln':=ln') (co':=co') hw;rw[i1];simp only;rw[i2];exact⟨_,_,rfl,he2,hs2⟩
 rw[if_neg o4] at h ⊢
 split at h
 · cases h
 rename_i hx
 cases h
 obtain⟨s2',i1,hs2⟩:=KX hd hex _ hs he (ln':=l') (co':=c') h1 f2 f1 hx;rw[i1];exact⟨_,_,rfl,he,hs2⟩
theorem Ni:∀(k k':Nd){s s':CS}{e e':AD}(out out':List (lU×T1)){o2:List (lU×T1)}{s2:CS},C0 d b0 s s'→Ep d ex e e'→k.er=k'.er→k.fre (QQ ex)=true→BH s e k out=.ok (o2,s2) →
   ∃o s2',o2=out++o∧BH s' e' k' out'=.ok (out'++o.map (λb=>(b.1,b.2.sh d)),s2')∧C0 d b0 s2 s2'
 |.nil,k',_,_,_,_,out,out',_,_,hs,_,hk,_,h=>by rw[CO hk];cases h;exact⟨[],_,by simp,by simp[BH],hs⟩
 |.cons op ln co tx nm k r,k',s,s',e,e',out,out',o2,s2,hs,he,hk,hf,h=>by
   obtain⟨ln',co',kk,rr,rfl,h1,h2⟩:=er_cons hk;obtain⟨_,f2,f3⟩:=Bv hf;unfold BH at h
   split at h
   · cases h
   · rename_i ht
     obtain⟨e1',s1',i1,he1,hs1⟩:=QN hd hex hs he (ln':=ln') (co':=co') h1 f2 ht;obtain⟨o,s2',i2,i3,hs2⟩:=Ni r rr out out' hs1 he1 h2 f3 h;exact⟨o,s2',i2,by unfold BH;rw[i1];exact i3,hs2⟩
   · rename_i b _ _ ht
     obtain⟨e1',s1',i1,he1,hs1⟩:=QN hd hex hs he (ln':=ln') (co':=co') h1 f2 ht;obtain⟨o,s2',i2,i3,hs2⟩:=Ni r rr (out++[b]) (out'++[(b.1,b.2.sh d)]) hs1 he1 h2 f3 h;exact⟨b::o,s2',by rw[i2];simp,by unfold BH;rw[i1];simp only[Option.map_some];rw[i3];simp,hs2⟩
omit hex
theorem Qs(hs:C0 d b0 s s'):∀(l:List (lU×T1)){r:List (lU×lU)},EY s l=.ok r→EY s' (l.map λb=>(b.1,b.2.sh d))=.ok r
 | [],r,h=>by cases h;rfl
 |(n,t)::l,r,h=>by
   unfold EY at h
   split at h
   · cases h
   rename_i hf
   split at h
   · cases h
   rename_i hr
   cases h
   simp only[List.map_cons];unfold EY;rw[Jl hd hs hf];simp only;rw[Qs hs l hr];simp only[ZX hd]
end
theorem QC{s:CS}:∀(a b:List (lU×T1)){ra rb:List (lU×lU)},EY s a=.ok ra→EY s b=.ok rb→EY s (a++b)=.ok (ra++rb)
 | [],b,ra,rb,h,hb=>by cases h;exact hb
 |(n,t)::a,b,ra,rb,h,hb=>by
   unfold EY at h
   split at h
   · cases h
   rename_i hf
   split at h
   · cases h
   rename_i hr
   cases h
   simp only[List.cons_append];unfold EY;rw[hf];simp only;rw[QC a b hr hb]
section
variable{xs:List lU}
def Xd(xs:List lU)(t:AA):Prop:=t.k=5→xs.contains t.tx=false
def Fo.nm(xs:List lU):Fo→Prop
 |.nil=>True
 |.cons t k r=>Xd xs t∧k.nm xs∧r.nm xs
def NF(xs:List lU)(a:N):Prop:=(a.op=5→xs.contains a.tx=false)∧a.kids.fre xs=true
def FF(xs:List lU)(f:AA→Fo→R N):Prop:=∀t k a,Xd xs t→k.nm xs→f t k=.ok a→NF xs a
theorem NF.cons{a:N}{r:Nd}(h:NF xs a)(hr:r.fre xs=true):(a.cons r).fre xs=true:=by
 simp only[N.cons,Nd.fre,h.2,hr,Bool.and_true,Bool.or_eq_true,Bool.not_eq_true',beq_eq_false_iff_ne]
 by_cases e:a.op=5
 · exact .inr (h.1 e)
 · exact .inl e
theorem NF.one{a:N}(h:NF xs a):a.one.fre xs=true:=h.cons rfl
theorem GS{f:AA→Fo→R N}(hf:FF xs f):∀(fo:Fo)(x:Nd),fo.nm xs→AE f fo=.ok x→x.fre xs=true
 |.nil,x,_,h=>by cases h;rfl
 |.cons t k r,x,hk,h=>by
   unfold AE at h
   split at h
   · cases h
   rename_i a h1
   split at h
   · cases h
   rename_i b h2
   cases h
   exact (hf t k a hk.1 hk.2.1 h1).cons (GS hf r b hk.2.2 h2)
variable {n:Nat}
theorem QT{op nm:Int}{tx:lU}{ks:Nd}(ho:op≠5)(h:ks.fre xs=true):NF xs ⟨op,ln,co,tx,nm,ks⟩:=⟨λe=>absurd e ho,h⟩
theorem Qd:∀(x y:Nd),x.fre xs=true→y.fre xs=true→(x.app y).fre xs=true
 |.nil,_,_,h=>h
 |.cons _ _ _ _ _ _ r,y,hx,hy=>by
   simp only[Nd.fre,Bool.and_eq_true] at hx;simp only[Nd.app,Nd.fre,hx.1.1,hx.1.2,Qd r y hx.2 hy];rfl
theorem VH:FF xs Gn:=λt k a _ _ h=>by
 unfold Gn at h
 cases h
 split <;> exact QT (by simp[Av]) rfl
theorem Zq:∀n,FF xs (D2 n)
 |0=>λ_ _ _ _ _ h=>by cases h
 |n+1=>λt k a ht hk h=>by
   have ih:=Zq n;unfold D2 at h;simp only[need] at h
   repeat' (split at h)
   all_goals first
     |(cases h;done)
     |exact VH t _ a ht hk h
     |(cases h;first|exact QT dC rfl|exact QT dC (GS ih _ _ hk.2.2 (by assumption)))
theorem R2{t:AA}:∀(x:Nd)(o:N),x.fre xs=true→Cr t x=some o→NF xs o
 |.nil,_,_,h=>by cases h
 |.cons op ln co tx nm kids .nil,o,hb,h=>by
   unfold Cr at h
   cases h
   simp only[Nd.fre,Bool.and_eq_true,Bool.or_eq_true,Bool.not_eq_true',beq_eq_false_iff_ne] at hb;exact⟨λe=>hb.1.1.resolve_left (λh=>h e),hb.1.2⟩
 |.cons op ln co tx nm kids (.cons a b c d e f r),o,hb,h=>by
   unfold Cr at h;simp only at h
   cases hr:Cr t (.cons a b c d e f r) with
   |none=>rw[hr] at h;cases h
   |some q =>
     rw[hr] at h
     cases h
     have h2:=Bv hb;have hq:=R2 (.cons a b c d e f r) q h2.2.2 hr;refine QT (by simp) ?_;simp only[Nd.fre,Bool.and_eq_true] at hb ⊢;exact⟨⟨hb.1.1,hb.1.2⟩,hq.one⟩
theorem Uw:∀n,FF xs (CK n)
 |0=>λ_ _ _ _ _ h=>by cases h
 |n+1=>λt k a ht hk h=>by
   have ih:=Uw n;unfold CK at h;simp only[need] at h
   repeat' (split at h)
   all_goals first
     |(cases h;done)
     |(rename_i he _ _ ho;cases h;exact R2 _ _ (GS ih _ _ hk.2.2 he) ho)
     |(cases h;first|exact QT dC rfl|exact QT dC (GS ih _ _ hk.2.2 (by assumption)))
theorem lM{ex:AA→Fo→R N}(hex:FF xs ex):FF xs (Fj n ex):=λt k a ht hk h=>by
 unfold Fj at h;simp only[need] at h
 repeat' (split at h)
 all_goals first
   |(cases h;done)
   |(rename_i h1 _ _ _ h3;cases h;exact QT (by simp[Av]) ((Zq n _ _ _ hk.1 hk.2.1 h1).cons (hex _ _ _ hk.2.2.1 hk.2.2.2.1 h3).one))
theorem gH{ex:AA→Fo→R N}(hex:FF xs ex){t:AA}{w:lU}{l:Fo}{a:N}(hl:l.nm xs)(h:Bb n ex t w l=.ok a):NF xs a:=by
 unfold Bb at h;simp only[need] at h
 split at h
 · repeat' (split at h)
   all_goals first
     |(cases h;done)
     |(rename_i h1 _ _ h3;cases h;exact QT (by simp[Av]) (Qd _ _ (GS VH _ _ hl.2.1 h1) (hex _ _ _ hl.2.2.1 hl.2.2.2.1 h3).one))
 iterate 2
   split at h
   · repeat' (split at h)
     all_goals first
       |(cases h;done)
       |(rename_i h1 _ _ h3;cases h;exact QT (by simp[Av]) ((hex _ _ _ hl.2.2.1 hl.2.2.2.1 h1).cons (hex _ _ _ hl.2.2.2.2.1 hl.2.2.2.2.2.1 h3).one))
 iterate 3
   split at h
   · repeat' (split at h)
     all_goals first
       |(cases h;done)
       |(rename_i h1;cases h;exact QT (by simp[Av]) (GS hex _ _ hl h1))
 split at h
 · repeat' (split at h)
   all_goals first
     |(cases h;done)
     |(rename_i h1 _ _ h3 _;cases h;exact QT (by simp) ((hex _ _ _ hl.1 hl.2.1 h1).cons (GS (lM hex) _ _ hl.2.2 h3)))
 split at h
 · repeat' (split at h)
   all_goals first
     |(cases h;done)
     |(rename_i h1 _;cases h;exact QT (by simp) (hex _ _ _ hl.1 hl.2.1 h1).one)
 · cases h
theorem N7:∀n,FF xs (BC n)
 |0=>λ_ _ _ _ _ h=>by cases h
 |n+1=>λt k a ht hk h=>by
   have ih:=N7 n;unfold BC at h;simp only[need] at h
   iterate 4
     split at h
     · cases h;exact QT (by simp[Av]) rfl
   split at h
   · rename_i h5
     split at h
     · cases h;exact⟨λ_=>ht (beq_iff_eq.1 h5),rfl⟩
     · cases h
   repeat' (split at h)
   all_goals first
     |(cases h;done)
     |exact gH ih hk.2.2 h
     |(cases h;first|exact QT (by simp[Av]) rfl|exact QT (by simp[Av]) (GS ih _ _ hk.2.2 (by assumption))|exact QT (by simp[Av]) (GS ih _ _ hk (by assumption)))
theorem fF(n:Nat):FF xs (EJ n):=λt k a ht hk h=>by
 unfold EJ at h;simp only[need] at h
 repeat' (split at h)
 all_goals first
   |(cases h;done)
   |(cases h;exact QT (by simp[Av]) (GS (Uw n) _ _ hk.2.2 (by assumption)))
theorem RY:∀(k:Fo)(x:Nd),Bq k=some x→x.fre xs=true
 |.nil,x,h=>by cases h;rfl
 |.cons v _ r,x,h=>by
   unfold Bq at h
   split at h
   · cases hr:Bq r with
     |none=>rw[hr] at h;cases h
     |some y =>
       rw[hr] at h
       cases h
       exact (show NF xs ⟨31,v.ln,v.co,v.tx,0,.nil⟩ from QT dC rfl).cons (RY r y hr)
   · cases h
theorem lI{t:AA}{k:Fo}{a:N}(hk:k.nm xs)(h:Ct n t k=.ok a):a.op≠5∧a.kids.fre xs=true∧(a.op=46∨xs.contains a.tx=false):=by
 have key:∀{v:AA},Xd xs v→v.isVar=true∨v.isTypeName=true→xs.contains v.tx=false:=λ{v} hv h=>hv (by
   have h2:v.isVar=true:=h.elim id λh=>by unfold AA.isTypeName at h;simp only[Bool.and_eq_true] at h;exact h.1
   unfold AA.isVar at h2;simp only[Bool.and_eq_true,beq_iff_eq] at h2;exact h2.1)
 unfold Ct at h
 split at h
 · cases h
 have hl:=hk.2.2;obtain⟨_,h⟩:=Eo h
 split at h
 · split at h
   · obtain⟨hc,h⟩:=Eo h
     split at h
     · cases h
     rename_i vs hv
     split at h
     · cases h
     rename_i cs h1
     cases h
     simp only[Bool.and_eq_true] at hc;exact⟨by simp[Av],Qd _ _ (RY _ _ hv) (GS (fF n) _ _ hl.2.2.2.2 h1),.inr (key hl.1 (.inr hc.1))⟩
   · cases h
 split at h
 · split at h
   · obtain⟨hc,h⟩:=Eo h
     split at h
     · cases h
     rename_i x h1
     split at h
     · cases h
     rename_i y h3
     cases h
     exact⟨by simp[Av],(Uw n _ _ _ hl.2.2.1 hl.2.2.2.1 h1).cons (N7 n _ _ _ hl.2.2.2.2.1 hl.2.2.2.2.2.1 h3).one,.inr (key hl.1 (.inl hc))⟩
   · cases h
 split at h
 · split at h
   · obtain⟨hc,h⟩:=Eo h
     split at h
     · cases h
     rename_i x h1
     cases h
     exact⟨by simp[Av],(N7 n _ _ _ hl.2.2.1 hl.2.2.2.1 h1).one,.inr (key hl.1 (.inl hc))⟩
   · cases h
 split at h
 · split at h
   · obtain⟨hc,h⟩:=Eo h
     split at h
     · cases h
     rename_i x h1
     cases h
     simp only[Bool.and_eq_true] at hc;exact⟨by simp[Av],(N7 n _ _ _ hl.2.2.1 hl.2.2.2.1 h1).one,.inr (key hl.1 (.inl hc.1))⟩
   · cases h
 split at h
 · split at h
   · split at h
     · cases h
     rename_i x h1
     cases h
     exact⟨by simp[Av],(N7 n _ _ _ hl.1 hl.2.1 h1).one,.inl rfl⟩
   · cases h
 · cases h
def Nd.tfr(xs:List lU):Nd→Prop
 |.nil=>True
 |.cons op _ _ tx _ _ r=>(op=46∨xs.contains tx=false)∧r.tfr xs
theorem Zk:∀(fo:Fo)(x:Nd),fo.nm xs→AE (Ct n) fo=.ok x→x.fre xs=true∧x.tfr xs
 |.nil,x,_,h=>by cases h;exact⟨rfl,tQ⟩
 |.cons t k r,x,hk,h=>by
   unfold AE at h
   split at h
   · cases h
   rename_i a h1
   split at h
   · cases h
   rename_i b h2
   cases h
   obtain⟨e1,e2,e3⟩:=lI hk.2.1 h1;obtain⟨e4,e5⟩:=Zk r b hk.2.2 h2;exact⟨NF.cons ⟨λe=>absurd e e1,e2⟩ e4,e3,e5⟩
theorem PZ:∀(a:Fo)(t:AA)(k:Fo),a.nm xs→Xd xs t→k.nm xs→(a.snoc t k).nm xs
 |.nil,_,_,_,h1,h2=>⟨h1,h2,tQ⟩
 |.cons _ _ r,t,k,h,h1,h2=>⟨h.1,h.2.1,PZ r t k h.2.2 h1 h2⟩
def pX(xs:List lU):List (AA×Fo)→Prop
 | []=>True
 |(o,p)::s=>Xd xs o∧p.nm xs∧pX xs s
theorem KD:∀(l:List AA)(st:List (AA×Fo))(cur fo:Fo),(∀t∈l,Xd xs t)→pX xs st→cur.nm xs→A9 l st cur=.ok fo→fo.nm xs
 | [],[],cur,fo,_,_,hc,h=>by simp only[A9] at h;cases h;exact hc
 | [],(o,p)::s,cur,fo,_,_,_,h=>by unfold A9 at h;split at h <;> cases h
 |k::l,st,cur,fo,hl,hs,hc,h=>by
   have hk:=hl k (.head _);have hl':∀t∈l,Xd xs t:=λt ht=>hl t (.tail _ ht);unfold A9 at h
   split at h
   · split at h
     · cases h
     · exact KD l ((k,cur)::st) .nil _ hl' ⟨hk,hc,hs⟩ tQ h
   · split at h
     · cases st with
       |nil=>cases h
       |cons op s=>exact KD l _ _ _ hl' hs.2.2 (PZ _ _ _ hs.2.1 hs.1 hc) h
     · exact KD l st (cur.snoc k .nil) _ hl' hs (PZ _ _ .nil hc hk tQ) h
end
section
variable{z:lU}
theorem dG{l:lU}(h:BF l z=false)(hz:z≠[]):∀w r:lU,w++r=l→w≠z:=λw r e hw=>by
 subst hw;subst e
 cases w with
 |nil=>exact hz rfl
 |cons b w =>
   simp only[List.cons_append,BF,Bool.or_eq_false_iff] at h;have:(b::w).isPrefixOf (b::(w++r))=true:=by rw[List.isPrefixOf_iff_prefix];exact⟨r,rfl⟩
   rw[this] at h;cases h.1
theorem H5{c:UInt8}{l:lU}(h:BF (c::l) z=false):BF l z=false:=by
 simp only[BF,Bool.or_eq_false_iff] at h;exact h.2
theorem M0:∀(w:lU){r l:lU},w++r=l→BF l z=false→BF r z=false
 | [],_,_,e,h=>by subst e;exact h
 |c::w,_,_,e,h=>by subst e;exact M0 w rfl (H5 h)
theorem Zz{w:lU}{nm:Int}{tx:lU}(h:GG w=some (5,nm,tx)):tx=w:=by
 unfold GG at h
 repeat' (split at h)
 all_goals first
   |(cases h;done)
   |(cases h;rfl)
   |(exfalso;simp at h;done)
variable {ot:List AA}{F n:Nat}{p p1:Ps}{src:lU}
theorem Yi{q:Ps}{l r:lU}{b:UInt8}(h:Fh p l=.ok (b,r,q)):∃w,w++r=l:=by
 cases l with
 |nil=>cases h
 |cons c l =>
   simp only[Fh] at h
   split at h
   · cases h;exact⟨[_],rfl⟩
   · split at h
     · cases h;exact⟨[_],rfl⟩
     · split at h
       · cases h;exact⟨[_],rfl⟩
       · split at h
         · rcases l with _|⟨x,_|⟨y,l⟩⟩
           · cases h
           · cases h
           · simp only at h
             split at h
             · cases h;exact⟨[c,x,y],rfl⟩
             · cases h
         · cases h
theorem MW{s:Ps}:∀(F:Nat)(p:Ps)(acc l tx r:lU)(q:Ps),Ee s F p acc l=.ok (tx,r,q)→∃w,w++r=l
 |0,_,_,_,_,_,_,h=>by cases h
 |n+1,p,acc,[],tx,r,p',h=>by cases h
 |n+1,p,acc,c::l,tx,r,p',h=>by
   rw[CE] at h
   split at h
   · split at h
     · cases h
     · cases h;exact⟨[c],rfl⟩
   · split at h
     · cases h
     · split at h
       · obtain⟨w,e⟩:=MW n _ _ _ tx r p' h;exact⟨c::w,by rw[← e];rfl⟩
       · split at h
         · cases h
         · split at h
           · cases h
           · rename_i he
             obtain⟨w,e⟩:=MW n _ _ _ tx r p' h;obtain⟨w2,e2⟩:=Yi he;exact⟨c::(w2++w),by rw[List.cons_append,List.append_assoc,e,e2]⟩
theorem SJ:∀(l:lU)(p:Ps),∃w,w++(GK p l).1=l
 | [],_=>⟨[],by simp[GK]⟩
 |c::l,p=>by
   unfold GK
   split
   · obtain⟨w,e⟩:=SJ l (adv c p);exact⟨c::w,by rw[List.cons_append,e]⟩
   · exact⟨[],by simp⟩
theorem Yn{l r:lU}(hz:z≠[])(hh:BF l z=false)(h:C1 F p l=.ok (ot,r,p1)):(∀t∈ot,Xd [z] t)∧BF r z=false:=by
 cases l with
 |nil=>cases h
 |cons c l =>
   rw[Cq] at h
   split at h
   · cases h;exact⟨by simp,H5 hh⟩
   · split at h
     · simp only[Except.ok.injEq,Prod.mk.injEq] at h
       obtain⟨w,e⟩:=SJ l (adv c p);rw[h.2] at e;exact⟨by rw[← h.1];simp,M0 w e (H5 hh)⟩
     · split at h
       · cases h;exact⟨by simp[Xd],H5 hh⟩
       · split at h
         · cases h;exact⟨by simp[Xd],H5 hh⟩
         · split at h
           · split at h
             · cases h
             · rename_i tx r' p' hs
               cases h
               obtain⟨w,e⟩:=MW _ _ _ _ _ _ _ hs;exact⟨by simp[Xd],M0 w e (H5 hh)⟩
           · split at h
             · cases h
             · rename_i k nm tx hw
               simp only[Except.ok.injEq,Prod.mk.injEq] at h;obtain⟨e1,_⟩:=LM l (adv c p);rw[← h.1,show r=(BZ (adv c p) l).2.1 by rw[h.2]];refine⟨?_,M0 (c::(BZ (adv c p) l).1) (by rw[List.cons_append,e1]) hh⟩;simp only[List.mem_singleton,forall_eq,Xd];intro hk;subst hk;have e2:=Zz hw;have e3:=dG hh hz (c::(BZ (adv c p) l).1) _ (by rw[List.cons_append,e1]);rw[e2];simpa using e3
theorem SB(hz:z≠[]):∀(n:Nat)(p:Ps)(l:lU)(toks:List AA),BF l z=false→DJ F n p l=.ok toks→∀t∈toks,Xd [z] t
 |n,p,[],toks,_,h=>by rw[G3] at h;cases h;simp
 |0,p,c::l,toks,_,h=>by cases h
 |n+1,p,c::l,toks,hh,h=>by
   rw[DL] at h
   split at h
   · cases h
   · rename_i t r' p' hs
     obtain⟨h1,h2⟩:=Yn hz hh hs
     split at h
     · cases h
     · rename_i l' hl
       cases h
       intro t ht;rcases List.mem_append.1 ht with ht|ht
       · exact h1 t ht
       · exact SB hz n p' r' l' h2 hl t ht
theorem bO(hz:z≠[])(hh:BF src z=false):(FP n (Hl src)).1.fre [z]=true∧(FP n (Hl src)).1.tfr [z]:=by
 unfold FP
 cases hl:Hl src with
 |error e=>exact⟨rfl,tQ⟩
 |ok toks =>
   simp only
   cases ht:A9 toks [] .nil with
   |error e=>exact⟨rfl,tQ⟩
   |ok fo =>
     simp only
     cases he:AE (Ct n) fo with
     |error e=>exact⟨rfl,tQ⟩
     |ok nds =>
       refine Zk fo nds (KD toks [] .nil fo ?_ tQ tQ ht) he;unfold Hl at hl
       split at hl
       · cases hl
       · split at hl
         · cases hl
         · rename_i hs
           cases hl
           exact SB hz _ _ _ _ hh hs
end
end Go.SP
namespace Go.SP
theorem Uz{b:Bn}{n:Int}{tx:lU}{k:Ty}(h:AW b n=some (.con tx k)):Ah b (.var n)=.con tx k:=by
 unfold Ah
 cases b with
 |nil=>cases h
 |cons p q =>
   show (match AW (p::q) n with|none=>T1.var n|some t'=>Hw (p::q) (q.length+1) t')=_;rw[h];rfl
def HD(b:Bn)(t:T1)(c:lU):Prop:=t=c0 c∨∃n,t=.var n∧AW b n=some (c0 c)
structure SG(s:CS):Prop where
 one:AW s.sol 1=some (c0 bI)
 le:∀p∈s.sol,p.1≤s.fresh
theorem HD.head{b:Bn}{t:T1}{c:lU}:HD b t c→Ah b t=c0 c
 |.inl h=>by rw[h];rfl
 |.inr ⟨n,h,hl⟩=>by rw[h];exact Uz hl
theorem HD.full{b:Bn}{t:T1}{c:lU}(h:HD b t c):fullS b t=some (c0 c):=by
 rcases h with rfl|⟨n,rfl,hl⟩
 · rfl
 · have hh:=Uz hl
   have e1:El b (.var n)=true:=by
     show (match Ah b (.var n) with|.var _=>BG b 999 .nil|.con _ ks=>BG b 999 (ks.app .nil))=true;rw[show Ah b (.var n)=_ from hh];rfl
   show (if El b (.var n) then some (AH b 1000 (T1.var n).one).hd else none)=_;rw[if_pos e1];show some (match Ah b (.var n) with|.var m=>Ty.var m (AH b 999 .nil)|.con tx ks=>.con tx (AH b 999 ks) (AH b 999 .nil)).hd=_;rw[show Ah b (.var n)=_ from hh];rfl
variable {s:CS}
theorem SG.bind(h:SG s)(hf:1≤s.fresh)(t:lU):SG {s with fresh:=s.fresh+1,sol:=(s.fresh+1,c0 t)::s.sol}:=by
 refine⟨?_,λp hp=>?_⟩
 · show (if s.fresh+1==1 then some (c0 t) else AW s.sol 1)=_
   rw[if_neg (by simp;omega)];exact h.one
 · rcases List.mem_cons.1 hp with rfl|hp
   · exact Int.le_refl _
   · have:=h.le p hp;show p.1≤s.fresh+1;omega
theorem HD.small{b:Bn}{t:T1}{c:lU}(h:HD b t c)(k:Nat)(r:Ty):BG b (k+1) (t.cons r)=BG b k r:=by
 rcases h with rfl|⟨n,rfl,hl⟩
 · rfl
 · show (match Ah b (.var n) with|.var _=>BG b k r|.con _ ks=>BG b k (ks.app r))=_
   rw[show Ah b (.var n)=_ from Uz hl];rfl
end Go.SP
namespace Go.SP
open Go.SW Go.RowKit
variable {k r:Nd}
theorem DP{n:Nd}{op:Int}{tx:lU}{nm:Int}(h:n.er=.cons op 0 0 tx nm k r):∃ln co k' r',n=.cons op ln co tx nm k' r'∧k'.er=k∧r'.er=r:=by
 cases n with
 |nil=>cases h
 |cons op' ln co tx' nm' k' r' =>
   simp only[Nd.er,Nd.cons.injEq,true_and] at h;obtain⟨rfl,rfl,rfl,h1,h2⟩:=h;exact⟨ln,co,k',r',rfl,h1,h2⟩
theorem GO{n:Nd}(h:n.er=.nil):n=.nil:=by
 cases n with
 |nil=>rfl
 |cons=>cases h
def DB:lU:=[122,122,56]
def O3:lU:=[40,100,101,102,32,122,122,56,32,40,102,110,32,40,120,32,121,41,32,40,121,32,120,41,41,41]
def N8:lU:=[40,100,101,102,32,122,122,56,32,49,41,32,40,100,101,102,32,122,122,56,32,34,97,34,41]
def ML:lU:=[40,100,111,32,122,122,56,41]
def kH:lU:=[40,45,62,32,39,97,32,40,45,62,32,40,45,62,32,39,97,32,39,98,41,32,39,98,41,41]
def Xn:Nd:=.cons 7 0 0 [] 0 (.cons 22 0 0 [120] 0 .nil (.cons 22 0 0 [121] 0 .nil (.cons 8 0 0 [] 0 (.cons 5 0 0 [121] 0 .nil (.cons 5 0 0 [120] 0 .nil .nil)) .nil))) .nil
def X4:Nd:=.cons 1 0 0 [] 1 .nil .nil
def lH:Nd:=.cons 3 0 0 [97] 0 .nil .nil
def lZ:Nd:=.cons 5 0 0 DB 0 .nil .nil
set_option maxRecDepth 100000 in
theorem xQ:pO 200 O3=some (.cons 44 0 0 DB 0 Xn .nil):=kR
set_option maxRecDepth 100000 in
theorem xO:pO 200 N8=some (.cons 44 0 0 DB 0 X4 (.cons 44 0 0 DB 0 lH .nil)):=kR
set_option maxRecDepth 100000 in
theorem wM:pO 200 ML=some (.cons 46 0 0 [] 0 lZ .nil):=kR
variable {e' e1:AD}{s s' s1:CS}{co ln:Int}{k k':Nd}
theorem OS{e:AD}{tx:lU}{t:T1}{v:Bool}(h:Ev s e tx t v ln co=.ok e1):∃b:Bd,e1=b::e∧b.name=tx:=by
 unfold Ev at h
 repeat' (split at h)
 all_goals first
   |(cases h;done)
   |(cases h;exact⟨_,rfl,rfl⟩)
theorem RP{z:lU}{e:AD}{op:Int}{tx:lU}{o:Option (lU×T1)}(hx:op=46∨[z].contains tx=false)(h:CG s e op ln co tx k=.ok (o,e1,s1)):CL e1 z=CL e z:=by
 have key:∀{b:Bd},b.name=tx→(op==46)=false→CL (b::e) z=CL e z:=λ{b} hb ho=>by
   have h2:[z].contains tx=false:=hx.resolve_left (λe=>by rw[e] at ho;cases ho);have h3:¬tx=z:=λe=>by rw[e] at h2;simp at h2
   show (if b.name==z then some b else CL e z)=CL e z;rw[hb,if_neg (by simpa using h3)]
 unfold CG at h
 by_cases o1:(op==41)=true
 · rw[if_pos o1] at h
   split at h <;> cases h
   rfl
 rw[if_neg o1] at h
 split at h
 · cases h;rfl
 by_cases o2:(op==43)=true
 · rw[if_pos o2] at h
   repeat' (split at h)
   all_goals first
     |(cases h;done)
     |(cases h;rfl)
     |(cases h;exact key rfl (by rw[beq_iff_eq.1 o2];rfl))
 rw[if_neg o2] at h
 by_cases o3:(op==44)=true
 · rw[if_pos o3] at h
   repeat' (split at h)
   all_goals first
     |(cases h;done)
     |(rename_i hw;cases h;obtain⟨b,rfl,hb⟩:=OS hw;exact key hb (by rw[beq_iff_eq.1 o3];rfl))
 rw[if_neg o3] at h
 by_cases o4:(op==45)=true
 · rw[if_pos o4] at h
   repeat' (split at h)
   all_goals first
     |(cases h;done)
     |(rename_i hw;cases h;obtain⟨b,rfl,hb⟩:=OS hw;exact key hb (by rw[beq_iff_eq.1 o4];rfl))
 rw[if_neg o4] at h
 split at h <;> cases h
 rfl
theorem L0{z:lU}:∀(a c:Nd){s s1:CS}{e:AD}{out o1:List (lU×T1)},a.tfr [z]→BH s e a out=.ok (o1,s1)→∃e1,BH s e (a.app c) out=BH s1 e1 c o1∧CL e1 z=CL e z
 |.nil,c,s,s1,e,out,o1,_,h=>by cases h;exact⟨e,rfl,rfl⟩
 |.cons op ln co tx nm k r,c,s,s1,e,out,o1,hx,h=>by
   unfold BH at h;simp only[Nd.app,BH]
   split at h
   · cases h
   · rename_i ht
     obtain⟨e1,h1,h2⟩:=L0 r c hx.2 h;exact⟨e1,h1,h2.trans (RP hx.1 ht)⟩
   · rename_i ht
     obtain⟨e1,h1,h2⟩:=L0 r c hx.2 h;exact⟨e1,h1,h2.trans (RP hx.1 ht)⟩
theorem YA{xs:List lU}:∀{a b:Nd},a.er=b.er→a.tfr xs→b.tfr xs
 |.nil,b,h,_=>by rw[CO h];trivial
 |.cons op ln co tx nm k r,b,h,hx=>by
   obtain⟨_,_,_,rr,rfl,_,h2⟩:=er_cons h;exact⟨hx.1,YA h2 hx.2⟩
theorem lX:QR []:=trivial
theorem jC:C0 0 [] Ll Ll:=⟨⟨rfl,λ_=>rfl,lX,lX⟩,rfl,dC,rfl,rfl,rfl,rfl,Sa,dC⟩
theorem sF:Ep 0 [] DA DA:=⟨[],rfl,rfl⟩
theorem yQ:WE 0 [] []:=λ_ h=>by cases h
theorem Ss(h:C0 0 [] s s')(hs:s.sol.map (λp=>(Fl 0 p.1,p.2.sh 0))=s.sol):s'=s:=by
 have h1:=h.sol.eq;have h2:=h.fr;have h3:=h.cons;have h4:=h.datas;have h5:=h.roots;have h6:=h.vars
 cases s;cases s'
 simp only[List.append_nil] at h1;simp only at h1 h2 h3 h4 h5 h6 hs;rw[hs] at h1;subst h1 h3 h4 h5 h6;rw[h2,Int.add_zero]
theorem Yo{l:AD}(h:Ep 0 [] (l++DA) e')(hl:l.map (Bd.sh 0)=l):e'=l++DA:=by
 obtain⟨l2,h1,h2⟩:=h;obtain rfl:=List.append_cancel_right h1;rw[h2,hl];rfl
theorem Yu{op:Int}{tx:lU}{b:lU×T1}{l:AD}(h:CG Ll DA op 0 0 tx k'=.ok (some b,l++DA,s))(hk:k'.er=k.er)(hf:k'.fre []=true)(hs:s.sol.map (λp=>(Fl 0 p.1,p.2.sh 0))=s.sol)(hl:l.map (Bd.sh 0)=l)(hb:b.2.sh 0=b.2) :
   CG Ll DA op ln co tx k=.ok (some b,l++DA,s)∧QR s.sol:=by
 obtain⟨e1',s1',i1,i2,i3⟩:=QN dC yQ jC sF (ln':=ln) (co':=co) hk hf h;have h3:=i3.sol.w';rw[Yo i2 hl,Ss i3 hs,Option.map_some,hb] at i1;rw[Ss i3 hs] at h3;exact⟨i1,h3⟩
def tB:T1:=.con Dz (.var 1 (.con Dz (.var 2 (.var 3 .nil)) .nil))
def pL:Bd:=⟨DB,.con Dz (.var 1 (.con Dz (.con Dz (.var 1 (.var 3 .nil)) (.var 3 .nil)) .nil)),[1,3]⟩
def sB:CS:={Ll with sol:=[(2,.con Dz (.var 1 (.var 3 .nil)))],fresh:=3}
theorem sX:CG Ll DA 44 0 0 DB Xn=.ok (some (DB,tB),[pL]++DA,sB):=kR
theorem gR{d:Int}(hd:0≤d):∀{b0:Bn},b0.all (λp=>decide (0<p.1)&&decide (p.1≤d))=true→∀n,AW b0 (Fl d n)=none
 | [],_,_=>rfl
 |(k,t)::b0,h,n=>by
   simp only[List.all_cons,Bool.and_eq_true,decide_eq_true_eq] at h;unfold AW;rw[if_neg (by simp only[beq_iff_eq];unfold Fl;split <;> omega)];exact gR hd h.2 n
theorem VT{d:Int}(hd:0≤d){b0:Bn}{n:Int}(hn:0<n∧n≤d):∀b:Bn,AW (b.map (λp=>(Fl d p.1,p.2.sh d))++b0) n=AW b0 n
 | []=>rfl
 |(k,t)::b=>by
   simp only[List.map_cons,List.cons_append,AW];rw[if_neg (by simp only[beq_iff_eq];unfold Fl;split <;> omega)];exact VT hd hn b
theorem mY(h2:AW s.sol 1=none∧AW s.sol 2=some (.con Dz (.var 1 (.var 3 .nil)))∧AW s.sol 3=none)(hw:QR s.sol):Eu s tB 0 0=.ok pL.t:=by
 have e1:=Dg h2.1;have e3:=Dg h2.2.2;have e2:Ah s.sol (.var 2)=.con Dz (.var 1 (.var 3 .nil)):=(Hq hw h2.2.1).trans (F2 ..)
 have hs:El s.sol tB=true:=by
   show BG s.sol (993+1+1+1+1+1+1+1) (.con Dz (.var 1 (.con Dz (.var 2 (.var 3 .nil)) .nil)) .nil)=true;simp only[BG,Ty.app,e1,e2,e3]
 have hf:AH s.sol 1000 tB.one=pL.t.one:=by
   show AH s.sol (993+1+1+1+1+1+1+1) (.con Dz (.var 1 (.con Dz (.var 2 (.var 3 .nil)) .nil)) .nil)=_;simp only[AH,e1,e2,e3];rfl
 unfold Eu fullS;rw[hs,hf];rfl
theorem fW(s:CS)(tx:lU)(ln co:Int):Eu s (c0 tx) ln co=.ok (c0 tx):=rfl
theorem xB:JR pL.t=kH:=kR
theorem LO{d:Int}(hd:0≤d){ex:AD}{sx:CS}{nds q:Nd}{z:lU}{o:List (lU×T1)}{s2:CS}(o0:List (lU×T1))(hex:WE d sx.sol ex)(hs:C0 d sx.sol Ll sx)(hq:nds.er=q.er)(hf:nds.fre (QQ ex)=true)(ht:nds.tfr [z])(h:BH Ll DA nds []=.ok (o,s2))(c:Nd) :
   ∃s2' e2,BH sx (ex++DA) (q.app c) o0=BH s2' e2 c (o0++o.map λb=>(b.1,b.2.sh d))∧CL e2 z=CL (ex++DA) z∧C0 d sx.sol s2 s2':=by
 obtain⟨o',s2',e1,i1,i2⟩:=Ni hd hex nds q [] o0 hs ⟨[],rfl,rfl⟩ hq hf h;rw[List.nil_append] at e1;subst e1;obtain⟨e2,i3,i4⟩:=L0 q c (YA hq ht) i1;exact⟨s2',e2,i3,i4,i2⟩
theorem L5{nds:Nd}{out:List (lU×lU)}(h:Ce nds=.ok out):∃o s,BH Ll DA nds []=.ok (o,s)∧EY s o=.ok out:=by
 unfold Ce at h
 split at h
 · cases h
 · rename_i o s ht;exact⟨o,s,ht,h⟩
theorem S9:∀a:Nd,a.app .nil=a
 |.nil=>rfl
 |.cons _ _ _ _ _ _ r=>by simp only[Nd.app,S9 r]
theorem mG{nds n:Nd}{out:List (lU×lU)}(hf:nds.fre [DB]=true)(ht:nds.tfr [DB])(h:Ce nds=.ok out)(hn:n.er=.cons 44 0 0 DB 0 Xn nds.er):Ce n=.ok ((DB,kH)::out):=by
 obtain⟨ln,co,k,q,rfl,h1,h2⟩:=DP hn;obtain⟨o,s2,ho,hfin⟩:=L5 h;obtain⟨t1,hw⟩:=Yu (k':=Xn) (ln:=ln) (co:=co) sX (show Xn.er=k.er from h1.symm) rfl rfl rfl rfl;have hS:C0 3 sB.sol Ll sB:=⟨⟨rfl,gR dC rfl,lX,hw⟩,rfl,dC,rfl,rfl,rfl,rfl,Sa,dC⟩;obtain⟨s2',e2,i1,_,i2⟩:=LO dC [(DB,tB)] (ex:=[pL]) (λb hb=>by cases hb with|head=>decide|tail _ h=>cases h) hS h2.symm hf ht ho .nil;rw[S9] at i1;unfold Ce;rw[show BH Ll DA (.cons 44 ln co DB 0 k q) []=BH sB ([pL]++DA) q ([]++[(DB,tB)]) by rw[BH,t1],List.nil_append,i1];show EY s2' ((DB,tB)::o.map λb=>(b.1,b.2.sh 3))=_;have hl:=λ{m:Int}(hm:0<m∧m≤3)=>(congrArg (AW · m) i2.sol.eq).trans (VT (b0:=sB.sol) dC hm s2.sol);unfold EY;rw[mY ⟨hl ⟨by decide,by decide⟩,hl ⟨by decide,by decide⟩,hl ⟨by decide,by decide⟩⟩ i2.sol.w'];simp only;rw[Qs (by decide) i2 o hfin,xB]
theorem tP:CG Ll DA 44 0 0 DB X4=.ok (some (DB,c0 bI),[⟨DB,c0 bI,[]⟩]++DA,Ll):=kR
theorem rM(e:AD)(ln co l c m:Int):CG Ll e 44 ln co DB (.cons 3 l c [97] m .nil .nil)=.ok (some (DB,c0 bS),⟨DB,c0 bS,[]⟩::e,Ll):=rfl
def yK:AD:=[⟨DB,c0 bS,[]⟩,⟨DB,c0 bI,[]⟩]
theorem pA{nds n:Nd}{out:List (lU×lU)}(hf:nds.fre [DB,DB]=true)(ht:nds.tfr [DB])(h:Ce nds=.ok out)(hn:n.er=.cons 44 0 0 DB 0 X4 (.cons 44 0 0 DB 0 lH (nds.er.app (.cons 46 0 0 [] 0 lZ .nil)))) :
   Ce n=.ok ([(DB,bI),(DB,bS)]++out++[([],bS)]):=by
 obtain⟨ln,co,k,r,rfl,h1,h2⟩:=DP hn;obtain⟨ln2,co2,k2,r2,rfl,h3,h4⟩:=DP h2;obtain⟨_,_,k3,r3,rfl,h5,h6⟩:=DP h3
 cases GO h5
 cases GO h6
 have hsp:∀(a b:Nd){x:Nd},x.er=a.er.app b→∃q c:Nd,x=q.app c∧a.er=q.er∧c.er=b:=by
   intro a b
   induction a with
   |nil=>intro x hx;exact⟨.nil,x,rfl,rfl,hx⟩
   |cons op l c tx nm k r _ ih =>
     intro x hx;obtain⟨l',c',k',r',rfl,e1,e2⟩:=DP hx;obtain⟨q,c2,rfl,e3,e4⟩:=ih e2;exact⟨.cons op l' c' tx nm k' q,c2,rfl,by simp only[Nd.er,e1,e3],e4⟩
 obtain⟨q,c,rfl,h7,h8⟩:=hsp nds _ h4;obtain⟨lc,cc,kc,rc,rfl,h9,h10⟩:=DP h8
 cases GO h10
 obtain⟨l5,c5,k5,r5,rfl,h11,h12⟩:=DP h9
 cases GO h12
 cases GO h11
 obtain⟨o,s2,ho,hfin⟩:=L5 h;obtain⟨t1,_⟩:=Yu (k':=X4) (ln:=ln) (co:=co) tP (show X4.er=k.er from h1.symm) rfl rfl rfl rfl;obtain⟨s2',e2,i1,i3,i2⟩:=LO (d:=0) (sx:=Ll) dC [(DB,c0 bI),(DB,c0 bS)] (ex:=yK) (z:=DB) (λb hb=>by cases hb with|head=>decide|tail _ h=>cases h with|head=>decide|tail _ h=>cases h) jC h7 hf ht ho (.cons 46 lc cc [] 0 (.cons 5 l5 c5 DB 0 .nil .nil) .nil);have hfd:CL e2 DB=some ⟨DB,c0 bS,[]⟩:=i3.trans rfl
 have hlast:CG s2' e2 46 lc cc [] (.cons 5 l5 c5 DB 0 .nil .nil)=.ok (some ([],c0 bS),e2,s2'):=by
   unfold CG;simp only[Nd.size,BT,Bg,Ft,hfd,fW];rfl
 unfold Ce;rw[show BH Ll DA (.cons 44 ln co DB 0 k (.cons 44 ln2 co2 DB 0 (.cons 3 _ _ [97] 0 .nil .nil) (q.app (.cons 46 lc cc [] 0 (.cons 5 l5 c5 DB 0 .nil .nil) .nil)))) []=BH Ll (yK++DA) (q.app (.cons 46 lc cc [] 0 (.cons 5 l5 c5 DB 0 .nil .nil) .nil)) [(DB,c0 bI),(DB,c0 bS)] by rw[BH,t1];simp only;rw[BH,rM];rfl,i1];rw[BH,hlast];simp only[BH];refine QC _ _ (QC _ _ ?_ (Qs dC i2 o hfin)) ?_
 · rfl
 · rfl
end Go.SP
namespace Go.Proofs.YtkahkniflkadoaaGreatDoor
open Go.SW Go.SP Go.RowKit
variable {src:lU}
theorem UL{out:List (lU×lU)}(hl:src.length≤1500)(h0:(Dk src).2.2.2=0)(hz:BF src DB=false)(h:Ce (Dk src).1=.ok out) :
   D3 (O3++[10]++src)=.ok ((DB,kH)::out)∧D3 (N8++[10]++src++[10]++ML)=.ok ([(DB,bI),(DB,bS)]++out++[([],bS)]):=by
 obtain⟨hf,ht⟩:=bO (n:=200) (z:=DB) dC hz
 have hp:pO 200 src=some (Dk src).1.er:=by
   cases hx:pO 200 src with
   |none=>exact absurd h0 ((K8 200 src oM).2 hx)
   |some x=>exact congrArg some ((K8 200 src oM).1 x hx).1.symm
 have hB:pO 200 (O3++10::src)=some (.cons 44 0 0 DB 0 Xn (Dk src).1.er):=by rw[Tl xQ,hp];rfl
 have hC:pO 200 (N8++10::(src++10::ML))=some (.cons 44 0 0 DB 0 X4 (.cons 44 0 0 DB 0 lH ((Dk src).1.er.app (.cons 46 0 0 [] 0 lZ .nil)))):=by rw[Tl xO,Tl hp,wM];rfl
 constructor
 · rw[show O3++[10]++src=O3++10::src by simp]
   obtain⟨e1,e2⟩:=(K8 200 (O3++10::src) (by simp[O3];omega)).1 _ hB;rw[Kx e2];exact mG hf ht h e1
 · rw[show N8++[10]++src++[10]++ML=N8++10::(src++10::ML) by simp]
   obtain⟨e1,e2⟩:=(K8 200 (N8++10::(src++10::ML)) (by simp[N8,ML];omega)).1 _ hC;rw[Kx e2];refine pA ?_ ht h e1
   have:∀k:Nd,k.fre [DB]=true→k.fre [DB,DB]=true:=by
     intro k
     induction k with
     |nil=>exact λ_=>rfl
     |cons op ln co tx nm k r ih1 ih2 =>
       intro h;simp only[Nd.fre,Bool.and_eq_true] at h ⊢;refine⟨⟨?_,ih1 h.1.2⟩,ih2 h.2⟩;have:=h.1.1;simpa using this
   exact this _ hf
end Go.Proofs.YtkahkniflkadoaaGreatDoor
namespace Go.SW
open Go.RowKit
def vJ(P:Program)(t:TypeId):Bool:=match P.underlying t with
 |some (.struct fs)=>(match fs.toList with
   | [f,g]=>(f.name != "_" && g.name != "_")&&(f.offset==0&&g.offset==1)&&(match P.underlying f.type,P.underlying g.type with|some .string,some .string=>true|_,_=>false)
   |_=>false)&&(!P.stoodInHeld t&&!P.eqGuardType P.depth t)
 |_=>false
theorem iL(a:ByteArray):(a==a)=true:=by
 obtain⟨x⟩:=a;exact (show (x==x)=true by simp)
variable {σ:Bj}{off:Nat}{x:Operand}{P:Program}{e t' ty:TypeId}{w:World}
theorem KH{cs:Array Value}{v:Value}(he:P.underlying e=some .string)(hv:cs[off]?=some v):(part e cs off).run P w=.ok v w:=by
 simp[part,isAgg,run_underlying he,hv]
theorem Yk{t:TypeId}{a1 a2:lU}(h:vJ P t=true)(d:Nat):(Op.equalIn (d+2) t (.agg #[S a1,S a2]) (.agg #[S a1,S a2])).run P w=.ok true w:=by
 unfold vJ at h
 split at h
 · rename_i fs hu
   rw[Bool.and_eq_true] at h;obtain⟨h1,h2⟩:=h
   split at h1
   · rename_i f g hfs
     simp only[Bool.and_eq_true] at h1 h2;obtain⟨⟨⟨hn1,hn2⟩,ho1,ho2⟩,h3⟩:=h1
     split at h3
     · rename_i hf hg
       have e1:f.offset=0:=by simpa using ho1
       have e2:g.offset=1:=by simpa using ho2
       have n1:f.name ≠ "_" := by simpa using hn1
       have n2:g.name ≠ "_" := by simpa using hn2
       have hst:P.stoodInHeld t=false:=by simpa using h2.1
       have q1:(Op.equalIn (d+1) f.type (S a1) (S a1)).run P w=.ok true w:=by simp[Op.equalIn,run_underlying hf,iL]
       have q2:(Op.equalIn (d+1) g.type (S a2) (S a2)).run P w=.ok true w:=by simp[Op.equalIn,run_underlying hg,iL]
       have p1:(part f.type #[S a1,S a2] 0).run P w=.ok (S a1) w:=KH hf rfl;have p3:(part g.type #[S a1,S a2] 1).run P w=.ok (S a2) w:=KH hg rfl;obtain⟨fl⟩:=fs;simp only at hfs;subst hfs;rw[Op.equalIn];simp only[Sem.run_bind,run_underlying hu,Result.andThen_ok,run_program,hst,Bool.false_eq_true,if_false];simp[n1,n2,e1,e2,p1,p3,q1,q2]
     · cases h3
   · cases h1
 · cases h
theorem VX{t:TypeId}{y:Operand}{a1 a2:lU}(h:vJ P t=true)(hx:ev σ x=some (.agg #[S a1,S a2]))(hy:ev σ y=some (.agg #[S a1,S a2])):AL P σ (.binOp .neq t x y t') ty w (.bool false) w:=λρ _ _ _ _ hρ=>by
 have hg:P.eqGuardType P.depth t=false:=by
   unfold vJ at h
   split at h
   · simp only[Bool.and_eq_true] at h;simpa using h.2.2
   · cases h
 have e:(Op.equal t (.agg #[S a1,S a2]) (.agg #[S a1,S a2])).run P w=.ok true w:=Yk (w:=w) (a1:=a1) (a2:=a2) h 9998;simp[execOp,hρ _ _ hx,hρ _ _ hy,run_eqGuard_agg w _ _ _ _ _ _ hg,binOp,e]
end Go.SW
namespace Go.Proofs.YtkahkniflkadoaaGreatDoor
open Go.SW Go.SP Go.RowKit
variable {s:CS}{f:Fq}{i:Nat}{a:Option Addr}{w:World}{src:lU}
theorem IF.get{l:List (lU×lU)}{c:Nat}{n t:lU}(h:IF w f l a c)(hx:l[i]?=some (n,t)):∃b off,a=some ⟨b,off,none⟩∧Cs w f b (off+i*2) [S n,S t]:=by
 have bC_flat:∀l:List (lU×lU),Go.SP.bC l=l.flatMap λx=>[S x.1,S x.2]:=λl=>by
   induction l with
   |nil=>rfl
   |cons x l ih=>obtain⟨u,v⟩:=x;simp only[Go.SP.bC,ih,List.flatMap_cons];rfl
 rcases h.2 with h|⟨b,off,h1,h2⟩
 · subst h;cases hx
 · rw[bC_flat] at h2
   exact⟨b,off,h1,Cs.flat (λx:lU×lU=>[S x.1,S x.2]) 2 (λ_=>rfl) l off i _ h2 hx⟩
theorem Wu(h:((oR (D3 src)).2.2 != 0)=false):(Dk src).2.2.2=0∧∃out,Ce (Dk src).1=.ok out∧D3 src=.ok out:=by
 have h:(oR (D3 src)).2.2=0:=by simpa using h
 by_cases h0:(Dk src).2.2.2=0
 · refine⟨h0,?_⟩
   rw[Kx h0] at h ⊢
   cases hi:Ce (Dk src).1 with
   |error e=>rw[hi] at h;exact absurd h (ZO hi)
   |ok out=>exact⟨out,rfl,rfl⟩
 · rw[SN h0] at h;exact absurd h h0
theorem xV:∀src:lU,(∀j,j+2<src.length→(src.take (j+3)).drop j≠DB)→BF src DB=false
 | [],_=>rfl
 |c::l,h=>by
   have ih:=xV l (λj hj e=>h (j+1) (by simp only[List.length_cons];omega) (by simpa using e));simp only[BF,ih,Bool.or_false]
   cases hp:DB.isPrefixOf (c::l) with
   |false=>rfl
   |true =>
     exfalso;rw[List.isPrefixOf_iff_prefix] at hp;obtain⟨t,ht⟩:=hp;have hl:=congrArg List.length ht;refine h 0 (by rw[← hl];simp[DB]) ?_;rw[← ht];rfl
theorem MO:∀(k:Nd){s s2:CS}{e:AD}{out o:List (lU×T1)},BH s e k out=.ok (o,s2)→o.length≤out.length+k.len
 |.nil,_,_,_,_,_,h=>by cases h;exact Nat.le_add_right _ _
 |.cons op ln co tx nm k r,s,s2,e,out,o,h=>by
   unfold BH at h
   split at h
   · cases h
   · have:=MO r h;simp only[Nd.len];omega
   · have:=MO r h;simp only[Nd.len,List.length_append,List.length_cons,List.length_nil] at this ⊢;omega
theorem VA:∀(l:List (lU×T1)){r:List (lU×lU)},EY s l=.ok r→r.length=l.length
 | [],_,h=>by cases h;rfl
 |(n,t)::l,r,h=>by
   unfold EY at h
   split at h
   · cases h
   · split at h
     · cases h
     · rename_i hr;cases h;simp only[List.length_cons,VA l hr]
theorem WN{nds:Nd}{out:List (lU×lU)}(h:Ce nds=.ok out):out.length≤nds.len:=by
 obtain⟨o,s,h1,h2⟩:=L5 h;have:=MO nds h1;rw[VA o h2];simpa using this
theorem Yt{out:List (lU×lU)}(hl:src.length≤1500)(h0:(Dk src).2.2.2=0)(h:Ce (Dk src).1=.ok out)(hz:∀j,j+2<src.length→(src.take (j+3)).drop j≠DB){rb rc:RB}(hb:D3 (O3++[10]++src)=rb)(hc:D3 (N8++[10]++src++[10]++ML)=rc) :
   rb=.ok ((DB,kH)::out)∧rc=.ok ((DB,bI)::(DB,bS)::(out++[([],bS)])):=by
 obtain⟨h1,h2⟩:=UL hl h0 (xV src hz) h;exact⟨hb.symm.trans h1,hc.symm.trans h2⟩
end Go.Proofs.YtkahkniflkadoaaGreatDoor
namespace Go.Proofs.YtkahkniflkadoaaGreatDoor
open Go.SW Go.SP Go.RowKit Go.Proofs.Tryz
theorem Lw(w:World)(f:Fq)(hv:Vl w f)(hJ:Dl w f)(hG:Fg w f)(src t:lU)(e:t=src):B3 prog 5 #[S t] w (BO (α:=RB×Option Addr×Nat) (λx=>rZ x.1 x.2) (λx=>D3 src=x.1) (λx=>[λw f=>IF w f (XR x.1) x.2.1 x.2.2]) w f):=by
 subst e;exact (JY w f hv hJ hG t).mono λ_ _ ⟨x,f',h1,_,h2,h3⟩=>⟨(D3 t,x),f',h1,rfl,h2,h3⟩
theorem Wn(w:World)(f:Fq)(hv:Vl w f)(hJ:Dl w f)(hG:Fg w f)(src:lU) :
   B3 prog 3 #[S src] w (BO (α:=Unit) (λ_=>.bool true) (λ_=>True) (λ_=>[]) w f):=by
 refine CV (X:=X0 w f) (H:=[]) (R:=[]) (B:=[]) (Fs:=[λw f=>Dl w f,λw f=>Fg w f]) (f:=f) func3 rfl rfl rfl (Cz hv ⟨hJ,hG,tQ⟩ ⟨Dl.mono,Fg.mono,tQ⟩)<|Aa 13 [] (λ_=>AZ 16 rfl rfl (λh1=>?_) (λh1=>?_));refine Aa 3 [] (λ_=>By rfl rfl (eC YE rfl rfl) (λw f hM=>IG w f hM.vl hM.f0 hM.f1) (λ_=>trivial) ?_);rintro⟨⟩ -;exact Aa 5 [] (λ_=>AV (Dx rfl rfl) (λw f hM=>⟨(),f,rfl,tQ,hM.exm,tQ⟩));refine Aa 4 [] (λ_=>?_);have hl15:src.length≤1500:=by have:=of_decide_eq_false h1;omega
 refine Aa 2 [] (λ_=>By (α:=RB×Option Addr×Nat) (val:=λx=>rZ x.1 x.2) (q:=λx=>D3 src=x.1) (F':=λx=>[λw f=>IF w f (XR x.1) x.2.1 x.2.2]) rfl rfl (eC R6 rfl rfl) (λw f hM=>Lw w f hM.vl hM.f0 hM.f1 src _ rfl) (λ_=>⟨IF.mono,tQ⟩) ?_);rintro⟨ra,aa,ac⟩ hra;dsimp only at hra ⊢;refine Aa 14 [0] (λb1=>y<|aI (by simp <;> omega)<|λ_=>By (α:=RB×Option Addr×Nat) (val:=λx=>rZ x.1 x.2) (q:=λx=>D3 (O3++[10]++src)=x.1) (F':=λx=>[λw f=>IF w f (XR x.1) x.2.1 x.2.2]) rfl rfl (eC R6 rfl rfl) (λw f hM=>Lw w f hM.vl hM.f1 hM.f2 (O3++[10]++src) _ rfl) (λ_=>⟨IF.mono,tQ⟩) ?_);rintro⟨rb,ba,bc⟩ hrb;dsimp only at hrb ⊢;refine Aa 15 [0] (λb2=>y<|aI (by simp <;> omega)<|aI (by simp <;> omega)<|λ_=>By (α:=RB×Option Addr×Nat) (val:=λx=>rZ x.1 x.2) (q:=λx=>D3 (N8++[10]++src++[10]++ML)=x.1) (F':=λx=>[λw f=>IF w f (XR x.1) x.2.1 x.2.2]) rfl rfl (eC R6 rfl rfl) (λw f hM=>Lw w f hM.vl hM.f2 hM.f3 (N8++[10]++src++[10]++ML) _ (by simp[N8,ML])) (λ_=>⟨IF.mono,tQ⟩) ?_);rintro⟨rc,ca,cc⟩ hrc;dsimp only at hrc ⊢;refine Aa 13 [0] (λb3=>y<|λ_=>By rfl rfl (eC YE rfl rfl) (λw f hM=>IG w f hM.vl hM.f3 hM.f4) (λ_=>trivial) ?_);rintro⟨⟩ -;refine Aa 7 [] (λ_=>AZ 44 rfl rfl (λh2=>?_) (λh2=>?_));refine Aa 3 [] (λ_=>By rfl rfl (eC YE rfl rfl) (λw f hM=>IG w f hM.vl hM.f3 hM.f4) (λ_=>trivial) ?_);rintro⟨⟩ -;exact Aa 5 [] (λ_=>AV (Dx rfl rfl) (λw f hM=>⟨(),f,rfl,tQ,hM.exm,tQ⟩));refine Aa 5 [] (λ_=>?_);obtain⟨h0,out,hinf,hout⟩:=Wu (src:=src) (by rw[hra];exact h2);obtain rfl:ra=.ok out:=hra.symm.trans hout;refine Aa 5 [] (λ_=>?_);refine GC (α:=Nat) (λi=>src.length-i) (λi=>i≤src.length∧∀j,j<i→(src.take (j+3)).drop j≠DB) (λi=>(E7 0 (S src) 3 (.slice aa out.length ac) 6 (.slice ba (XR rb).length bc) 8 (iV (oR rb).2.2) 9 (.slice ca (XR rc).length cc) 11 (iV (oR rc).2.2) 12 (iV (i:Int)))) (λi=>X0 w f) (λi=>[]) (λi=>[]) (λi=>[]) (λi=>[λw f=>IF w f (XR rc) ca cc,λw f=>IF w f (XR rb) ba bc,λw f=>IF w f out aa ac,λw f=>Dl w f,λw f=>Fg w f]) (0) ⟨Nat.zero_le _,λ_ h=>absurd h (Nat.not_lt_zero _)⟩ lE (λw f hM=>hM.less (List.nil_sublist _) sR (λ_ h=>h) (mR [0,1,2,3,4])) ?_;rintro i ⟨hi,hno⟩;refine Aa 10 [] (aI ⟨oM,oM⟩<|λ_=>AZ 50 rfl rfl (λh3=>?_) (λh3=>?_));refine Aa 11 [] (aI ⟨oM,oM⟩<|λ_=>Fm rfl rfl (λw f hM=>Kt rfl rfl rfl Ha ⟨oM,oM,by have:=of_decide_eq_true h3;omega⟩)<|Aa 3 [] (λ_=>AZ 58 rfl rfl (λh4=>?_) (λh4=>?_)));exact Aa 9 [] (λ_=>dN<|Aa 2 [] (λ_=>AV (Dx rfl rfl) (λw f hM=>⟨(),f,rfl,tQ,hM.exm,tQ⟩)));exact Aa 9 [] (aI ⟨oM,oM⟩<|λ_=>DF (i+1) (show src.length-(i+1)<src.length-i by have:=of_decide_eq_true h3;omega) ⟨by have:=of_decide_eq_true h3;omega,λj hj=>by rcases Nat.lt_succ_iff_lt_or_eq.1 hj with h9|rfl;exact hno j h9;exact λe=>by have h9:=h4;simp only[Int.toNat_natCast,show ((j:Int)+3).toNat=j+3 by omega,e] at h9;exact absurd h9 dC⟩ lE (λw f hM=>⟨_,hM.less sR sR nE (λ_ h=>h)⟩));refine Aa 3 [] (λ_=>Gp<|Aa 4 [] (λ_=>?_))
 obtain⟨rfl,rfl⟩:=Yt hl15 h0 hinf (λj hj=>hno j (by have:=of_decide_eq_false h3;omega)) hrb hrc;have hol:out.length≤200000:=Nat.le_trans (WN hinf) (Nat.le_trans (Nd.len_le _) (KZ src).size);refine Aa 16 [] (aI ⟨oM,oM⟩<|λ_=>tL 73 false rfl rfl (by simp only[XR,List.length_cons,List.length_append,List.length_nil,bne_eq_false_iff_eq];omega)<|Aa 9 [] (aI ⟨oM,oM⟩<|λ_=>tL 80 false rfl rfl (by simp only[XR,List.length_cons,List.length_append,List.length_nil,bne_eq_false_iff_eq];omega)<|Aa 10 [] (λ_=>?_)));refine GC (α:=Nat) (λj=>out.length-j) (λj=>j≤out.length) (λj=>(E4 3 (.slice aa out.length ac) 6 (.slice ba ((DB,kH)::out:List (lU×lU)).length bc) 9 (.slice ca ((DB,bI)::(DB,bS)::(out++[([],bS)]):List (lU×lU)).length cc) 13 (iV (j:Int)))) (λj=>X0 w f) (λj=>[]) (λj=>[]) (λj=>[]) (λj=>[λw f=>IF w f ((DB,bI)::(DB,bS)::(out++[([],bS)]):List (lU×lU)) ca cc,λw f=>IF w f ((DB,kH)::out:List (lU×lU)) ba bc,λw f=>IF w f out aa ac]) (0) (Nat.zero_le _) lE (λw f hM=>hM.less sR sR (λ_ h=>h) (mR [0,1,2])) ?_;rintro j hj;refine Aa 9 [] (λ_=>AZ 84 rfl rfl (λh5=>?_) (λh5=>?_));refine Aa 6 [] (λ_=>?_);have hjl:j<out.length:=by have:=of_decide_eq_true h5;omega
 obtain⟨⟨xn,xt⟩,hx⟩:∃v,out[j]?=some v:=⟨_,List.getElem?_eq_getElem hjl⟩;refine LQ (α:=Nat×Nat) (λx=>aa=some ⟨x.1,x.2,none⟩) (λx=>[⟨x.1,x.2+j*2,[S xn,S xt]⟩]) (λx=>[]) (λw f hM=>let ⟨b,off,h1,h2⟩:=IF.get hM.f2 hx;⟨(b,off),h1,oE h2,nE⟩) (λx=>Az.mem tQ) ?_;rintro⟨be1,oe1⟩ rfl;refine LQ (α:=Nat×Nat) (λx=>ba=some ⟨x.1,x.2,none⟩) (λx=>[⟨x.1,x.2+((j:Int)+1).toNat*2,[S xn,S xt]⟩]) (λx=>[]) (λw f hM=>let ⟨b,off,h1,h2⟩:=IF.get hM.f1 (i:=j+1) hx;⟨(b,off),h1,oE h2,nE⟩) (λx=>Az.mem tQ) ?_;rintro⟨be2,oe2⟩ rfl;refine LQ (α:=Nat×Nat) (λx=>ca=some ⟨x.1,x.2,none⟩) (λx=>[⟨x.1,x.2+((j:Int)+2).toNat*2,[S xn,S xt]⟩]) (λx=>[]) (λw f hM=>let ⟨b,off,h1,h2⟩:=IF.get hM.f0 (i:=j+2) (by show (out++[([],bS)])[j]?=_;rw[List.getElem?_append_left hjl];exact hx);⟨(b,off),h1,oE h2,nE⟩) (λx=>Az.mem tQ) ?_;rintro⟨be3,oe3⟩ rfl;exact CU [] Aq (rd [0,1,2,3,4,5,6,7,8,9,10,11,12,13,14,15,16,17,18,19,20,21] .fin) rfl kR<|A6 9 [102,0,101,0] (aI (by first|omega|(simp only[List.length_cons,List.length_append,List.length_nil];omega))<|y2<|aI ⟨oM,oM⟩<|aI (by first|omega|(simp only[List.length_cons,List.length_append,List.length_nil];omega))<|y2<|λ_=>Hm rfl rfl rfl (λw hK=>VX kR rfl rfl)<|A6 10 [102,0,100,0] (aI (by first|omega|(simp only[List.length_cons,List.length_append,List.length_nil];omega))<|y2<|aI ⟨oM,oM⟩<|aI (by first|omega|(simp only[List.length_cons,List.length_append,List.length_nil];omega))<|y2<|λ_=>Hm rfl rfl rfl (λw hK=>VX kR rfl rfl)<|A6 1 [] (λ_=>Bo<|Aa 10 [] (aI ⟨oM,oM⟩<|λ_=>DF (j+1) (show out.length-(j+1)<out.length-j by omega) (show j+1≤out.length by omega) lE (λw f hM=>⟨_,hM.less sR sR (B':=[]) nE (mR [0,1,2])⟩)))));refine Aa 3 [] (λ_=>Gp<|Aa 3 [] (λ_=>?_));have hcl:(((DB,bI)::(DB,bS)::(out++[([],bS)]):List (lU×lU)).length:Int)=out.length+3:=by simp only[List.length_cons,List.length_append,List.length_nil];omega
 refine LQ (α:=Nat×Nat) (λx=>ba=some ⟨x.1,x.2,none⟩) (λx=>[⟨x.1,x.2+0*2,[S DB,S kH]⟩]) (λx=>[]) (λw f hM=>let ⟨b,off,h1,h2⟩:=IF.get (i:=0) hM.f1 rfl;⟨(b,off),h1,oE h2,nE⟩) (λx=>Az.mem tQ) ?_;rintro⟨bb0,ob0⟩ rfl;refine LQ (α:=Nat×Nat) (λx=>ca=some ⟨x.1,x.2,none⟩) (λx=>[⟨x.1,x.2+((((DB,bI)::(DB,bS)::(out++[([],bS)]):List (lU×lU)).length:Int)-1).toNat*2,[S [],S bS]⟩]) (λx=>[]) (λw f hM=>let ⟨b,off,h1,h2⟩:=IF.get (i:=out.length+2) hM.f0 (show (out++[([],bS)])[out.length]?=some ([],bS) by simp);⟨(b,off),h1,oE (by rw[show ((((DB,bI)::(DB,bS)::(out++[([],bS)]):List (lU×lU)).length:Int)-1).toNat=out.length+2 by simp only[List.length_cons,List.length_append,List.length_nil];omega];exact h2),nE⟩) (λx=>Az.mem tQ) ?_;rintro⟨bc0,oc0⟩ rfl;exact Aa 20 [101,1,100,1] (aI (by first|omega|(simp only[List.length_cons,List.length_append,List.length_nil];omega))<|y2<|aI ⟨oM,oM⟩<|aI (by first|omega|(simp only[List.length_cons,List.length_append,List.length_nil];omega))<|y2<|λ_=>AV (Dx rfl rfl) (λw f hM=>⟨(),f,rfl,tQ,hM.exm,tQ⟩))
end Go.Proofs.YtkahkniflkadoaaGreatDoor
namespace Go.Proofs.YtkahkniflkadoaaGreatDoor.More
open Go.SW Go.SP Go.RowKit Go.Lib Go.ChangeShapes Go.WideShapes Go.ChangeAt Go.ChangeMaps
set_option maxRecDepth 100000 in
theorem Zr(H:Type)(enc:TypeId×Value→H)(W:World)(base:Nat)(args:Array Value)(ds gs:List (DataW H))(before:List MemPlace)
   (hval:∀(j:Nat) t v,Tryz.f3.params[j]?=some t→args[j]?=some v→Value.okWide Tryz.prog W .any base t v)
   (hW:DataW.Whole enc Tryz.prog Tryz.f3.params.toList Rows.inferMoreSpec.vars false W args.toList ds gs before) (hL:laidMetH Tryz.prog Rows.inferMoreRow.laid W) (hS:W.ShapedOpen Tryz.prog) :
   Calls Tryz.prog 3 args W λe W'=>∃v,e=.returned v∧Rows.inferMoreSpec.post enc Tryz.prog Tryz.f3 false true false false W args v W':=by
 have hW':=hW;obtain⟨p,q,hA0,hV,rfl,hfz,hnd⟩:=hW;have hA:DataW.TrodAll enc Tryz.prog W 0 (λ_=>true) true Tryz.f3.params.toList args.toList ds p:=hA0;rw[Tryz.params3] at hA hval;obtain⟨v0,vs0,d0,ds0,p0,q0,hargs0,rfl,rfl,h0,r0⟩:=trodAll_cons hA;obtain⟨rfl,rfl,rfl⟩:=trodAll_nil r0
 obtain rfl:args=#[v0]:=by
   obtain⟨l⟩:=args;exact congrArg Array.mk (hargs0)
 obtain⟨rfl,rfl⟩:=trodVars_none hV;obtain⟨⟨⟨x0⟩⟩,rfl,rfl,rfl,wx0⟩:=open_string Tryz.underlying9 (hval 0 9 v0 rfl rfl) h0;clear hA0;simp only[List.append_nil] at hW';refine Calls.mono (ZT (Wn W (gO W) (lR W) (iP hL hS).1 (iP hL hS).2 x0)) ?_;rintro e W' ⟨v,rfl,rfl,hb⟩;exact⟨_,rfl,_,_,_,[],[],[],hW',trodAll_cons_mk (shut_bool Tryz.underlying4 _) trodAll_mk0,trodAll_cons_mk (shut_string Tryz.underlying9 wx0) trodAll_mk0,rfl,hb.frame _,λh=>by cases h⟩
noncomputable def lw(os:Os):World:=World.laidAll Tryz.prog os Rows.inferMoreRow.laid
theorem Zw(os:Os):laidMetH Tryz.prog Rows.inferMoreRow.laid ((lw os).forCall (λ_ _=>0) ⟨#[],#[Value.string ⟨#[]⟩],[]⟩).memory:=by
 rw[MakeChecks.laidMetH_plain _ _ _ (by kernel_rfl)];exact laidMet_laidAll _ kR kR
theorem reads(os:Os){H:Type}(enc:TypeId×Value→H):∃places,DataW.whole enc Tryz.prog ((lw os).forCall (λ_ _=>0) ⟨#[],#[Value.string ⟨#[]⟩],[]⟩).memory Tryz.f3.params.toList Rows.inferMoreSpec.vars false (#[Value.string ⟨#[]⟩]:Array Value).toList 8=some ([.lit (.string [])],[],places) :=
 ⟨[],kR⟩
set_option maxRecDepth 100000 in
theorem lifted(os:Os)(started:os.Started)(H:Type)(enc:TypeId×Value→H)(F:Stop.Interp) :
   ReturnsInHanded {} Tryz.checked os 3 .any ((OpenSpec.ofChange Rows.inferMoreSpec).preRow enc Tryz.prog Tryz.f3 Rows.inferMoreRow.domain false Rows.inferMoreRow.laid) (((OpenSpec.ofChange Rows.inferMoreSpec).at F).post enc Tryz.prog Tryz.f3 false true false false):=by
 obtain⟨places,hx⟩:=reads os enc
 refine returnsInHanded_of_row (C:=Tryz.checked) (s:=OpenSpec.ofChange Rows.inferMoreSpec) own started kR Tryz.func3
   ⟨lw os,λ_ _=>0,⟨#[],#[Value.string ⟨#[]⟩],[]⟩,World.laidAll_os _ _ _,World.shaped_of_ZipB kR kR,rfl,(Input.okWide_of_okWideB kR).2,
     OpenSpec.preRow_of_cond 8 hx kR (λk hk=>by cases hk) kR (Zw os),by simp[Assume.holds]⟩ ?_
 intro W base args ds gs before hval hW _ _ _ hL hS _;exact Zr H enc W base args ds gs before hval hW hL hS
abbrev jc:=Rows.inferMoreRow
abbrev js:=(OpenSpec.ofChange Rows.inferMoreSpec).bare
theorem jT{a b:Bool}(h:a=true)(k:b=true):(a&&b)=true:=by rw[h,k];rfl
theorem jL{a b:Bool}(h:(a&&b)=true):a=true:=((Bool.and_eq_true a b).mp h).1
theorem jR{a b:Bool}(h:(a&&b)=true):b=true:=((Bool.and_eq_true a b).mp h).2
theorem j0:((jc.wf (OpenSpec.ofChange js))&&(laidOutB Tryz.pinned.checked.prog)&&(mapsRowed Tryz.pinned.checked.prog)&&(Tryz.f3.params.all (Tryz.pinned.checked.prog.readableRec ·))&&(namedTie Tryz.pinned.checked.prog jc.named js.vars)&&((jc.stops==[]))&&((Tryz.pinned.checked.prog.stops==[]))&&((jc.knobs==[]))&&((Tryz.pinned.checked.prog.stopKnobs==[])))=true:=kR
theorem j1:(((jc.inPlace==Tryz.pinned.checked.prog.inPlace 3))&&((jc.unfollowed==Tryz.pinned.checked.prog.unfollowed 3))&&((jc.recurses==Tryz.pinned.checked.prog.recurses 3))&&((jc.named==Tryz.pinned.checked.prog.varsNamed 3)))=true:=kR
theorem j2:(((jc.maps==(Tryz.f3.params.toList++js.plain.varTypes Tryz.pinned.checked.prog).any (Tryz.pinned.checked.prog.mapsRec ·)))&&((jc.ifaces==(Tryz.f3.params.toList++js.plain.varTypes Tryz.pinned.checked.prog).any (Tryz.pinned.checked.prog.ifacesRec ·)))&&((jc.mapsOut==Tryz.pinned.checked.prog.mapsAmong Tryz.f3.resultTypes.toList))&&((jc.loops==(Tryz.f3.params.toList++js.plain.varTypes Tryz.pinned.checked.prog).any (Tryz.pinned.checked.prog.loopsFrom ·)))&&((jc.wideKeys==(Tryz.f3.params.toList++js.plain.varTypes Tryz.pinned.checked.prog++Tryz.f3.resultTypes.toList).any (Tryz.pinned.checked.prog.wideKeysFrom ·)))&&(js.vars.all (Tryz.pinned.checked.prog.varReadable ·)))=true:=kR
theorem j3:((Tryz.f3.resultTypes.all (λt=>Tryz.pinned.checked.prog.readableRec t&&decide (t < Tryz.pinned.checked.prog.types.size)))&&((jc.ifacesOut==Tryz.f3.resultTypes.toList.any (Tryz.pinned.checked.prog.ifacesRec ·)))&&((jc.loopsOut==Tryz.f3.resultTypes.toList.any (Tryz.pinned.checked.prog.loopsFrom ·)))&&((jc.plainKeys==Tryz.pinned.checked.prog.plainKeys))&&(jc.shortTexts.isNone)&&(Tryz.pinned.checked.prog.stopsHeard)&&(Tryz.pinned.checked.prog.mayEnter)&&((jc.lifted==Tryz.pinned.checked.prog.liftsFinal))&&((Tryz.pinned.checked.prog.make==some jc.make))&&((jc.kinds==(if jc.domain.isEmpty then [] else Tryz.f3.params.toList.map λt=>match Tryz.pinned.checked.prog.underlying t with|some (.int k)=>some k|_=>none)))&&((jc.pinned==jc.pinnedBy))&&((jc.veiled==(Tryz.f3.params.toList++js.plain.varTypes Tryz.pinned.checked.prog++Tryz.f3.resultTypes.toList).any (Tryz.pinned.checked.prog.veiledRec ·)))&&(jc.veiledFits Tryz.pinned.checked.prog Tryz.f3.params.toList (Tryz.f3.params.toList++js.plain.varTypes Tryz.pinned.checked.prog++Tryz.f3.resultTypes.toList)))=true:=kR
set_option maxRecDepth 100000 in
theorem xN:joinedFacts Tryz.pinned.checked.prog 3 Tryz.f3 (OpenSpec.ofChange Rows.inferMoreSpec).bare Rows.inferMoreRow=true:=(jT (jT (jT (jT (jT (jT (jT (jT (jT (jT (jT (jT (jT (jT (jT (jT (jT (jT (jT (jT (jT (jT (jT (jT (jT (jT (jT (jT (jT (jT (jT (jL (jL (jL (jL (jL (jL (jL (jL j0)))))))) (jR (jL (jL (jL (jL (jL (jL (jL j0))))))))) (jR (jL (jL (jL (jL (jL (jL j0)))))))) (jR (jL (jL (jL (jL (jL j0))))))) (jR (jL (jL (jL (jL j0)))))) (jR (jL (jL (jL j0))))) (jR (jL (jL j0)))) (jR (jL j0))) (jR j0)) (jL (jL (jL j1)))) (jR (jL (jL j1)))) (jR (jL j1))) (jR j1)) (jL (jL (jL (jL (jL j2)))))) (jR (jL (jL (jL (jL j2)))))) (jR (jL (jL (jL j2))))) (jR (jL (jL j2)))) (jR (jL j2))) (jR j2)) (jL (jL (jL (jL (jL (jL (jL (jL (jL (jL (jL (jL j3))))))))))))) (jR (jL (jL (jL (jL (jL (jL (jL (jL (jL (jL (jL j3))))))))))))) (jR (jL (jL (jL (jL (jL (jL (jL (jL (jL (jL j3)))))))))))) (jR (jL (jL (jL (jL (jL (jL (jL (jL (jL j3))))))))))) (jR (jL (jL (jL (jL (jL (jL (jL (jL j3)))))))))) (jR (jL (jL (jL (jL (jL (jL (jL j3))))))))) (jR (jL (jL (jL (jL (jL (jL j3)))))))) (jR (jL (jL (jL (jL (jL j3))))))) (jR (jL (jL (jL (jL j3)))))) (jR (jL (jL (jL j3))))) (jR (jL (jL j3)))) (jR (jL j3))) (jR j3))
theorem said:Rows.InferMoreSaid :=
 OpenClaim.holds_of_cond 3 Tryz.f3 rfl rfl rfl rfl rfl rfl rfl ⟨rfl,rfl,rfl,rfl,rfl⟩ rfl rfl rfl rfl rfl kR Tryz.func3 xN
   (of_decide_eq_true kR) (by unfold Func.isWrapper;first|(rw[if_pos (by decide +kernel)];kernel_rfl)|(rw[if_neg (by decide +kernel)];exact⟨rfl,rfl⟩))
   (λos started H enc _ F=>by rw[OpenClaim.pre_eq_preRow];exact lifted os started H enc F)
theorem plain(f:FuncId)(fn:Func)(hf:Tryz.pinned.checked.prog.funcNamed Rows.inferMoreRow.func=some f)(hfn:Tryz.pinned.checked.prog.funcs[f]?=some fn) :
   true=Tryz.pinned.checked.prog.looks []∧∀(j:Nat) t,fn.params[j]?=some t→Tryz.pinned.checked.prog.wantsStandIn t=false:=by
 obtain rfl:f=3:=Option.some.inj ((show Tryz.prog.funcNamed Rows.inferMoreRow.func=some 3 by kernel_rfl).symm.trans hf) |>.symm;obtain rfl:fn=Tryz.f3:=(Option.some.inj (Tryz.func3.symm.trans hfn)).symm;refine⟨kR,λj t ht=>?_⟩;rw[Tryz.params3] at ht;have hm:=Array.mem_of_getElem? ht;have ht2:t=9:=by simpa using hm
 rcases ht2 with rfl
 · exact (show Tryz.prog.wantsStandIn 9=false by kernel_rfl)
end Go.Proofs.YtkahkniflkadoaaGreatDoor.More
namespace Go.Proofs.YtkahkniflkadoaaGreatDoor
theorem more_card:Rows.InferMoreCardSaid :=
 Claim7.holds_tied_plain_at .later [] _ _ _ _ More.said (λ_ h=>by cases h) kR (λ_ h=>by cases h) inferMore_row_tie rfl ⟨rfl,rfl⟩ kR rfl More.plain kR
end Go.Proofs.YtkahkniflkadoaaGreatDoor
