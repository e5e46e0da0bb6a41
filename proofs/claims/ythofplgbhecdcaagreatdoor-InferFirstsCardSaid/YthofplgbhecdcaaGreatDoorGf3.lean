/- What it rests on, part 3. -/
import Derived.Test.YthofplgbhecdcaaGreatDoorGf2
import Derived.RangeFuncNested
import Derived.RangeFuncCalls
import Derived.RangeFuncLeaves
set_option linter.unusedVariables false
set_option linter.unusedSimpArgs false
namespace Go.SW
open Go.RowKit
open Go.SP (QI)
def SD(T:TypeId)(q:Int×Int→Prop)(w:World)(f:Fq)(c:List PanicEntry)(w':World):Prop:=∃e f',c=QI T e∧q e∧CM (fun _=>False) w f w' f'
def Ye{α:Type}(e:TypeId)(size:Nat)(n:α→Nat)(xs:α→List Value)(q:α→Prop)(F':α→List (World→Fq→Prop))(w:World)(f:Fq)(v:Value)(w':World):Prop :=
 ∃x a c f',v=.slice a (n x) c∧q x∧CM (fun _=>False) w f w' f'∧Ck w' e size a c (n x) (xs x)∧(∀b,rb a=some b→w.heap.size≤b∧f' b=0)∧A1 (F' x) w' f'
theorem AX.addRow{X:Cx}{w w':World}{f f':Fq}{H:List HB}{R:List RB}{B:List FB}{Fs:List (World→Fq→Prop)}(h:AX X w f H R B Fs)(hE:CM (fun _=>False) w f w' f'){e:TypeId}{size c n:Nat}{a:Option Addr}{xs:List Value}
   (hr:Ck w' e size a c n xs) (hb:∀b,rb a=some b→w.heap.size≤b∧f' b=0):AX X w' f' H (⟨e,size,a,c,n,xs⟩::R) B Fs:=by
 have h1:=h.call0 hE
 cases ha:rb a with
 |none =>
   have ho:CP H (⟨e,size,a,c,n,xs⟩::R)=CP H R:=by simp only[CP,List.filterMap_cons,ha]
   exact {h1 with
     row:=fun r hm=>by rcases List.mem_cons.1 hm with rfl|hm;exact hr;exact h1.row r hm,
     nd:=by rw[ho];exact h1.nd,
     own:=by rw[ho];exact h1.own,
     rnw:=fun r hm b hb=>by rcases List.mem_cons.1 hm with rfl|hm;(rw[ha] at hb;cases hb);exact h1.rnw r hm b hb}
 |some b =>
   obtain⟨hn,hz⟩:=hb b ha
   have ho:CP H (⟨e,size,a,c,n,xs⟩::R)=H.map (·.b)++b::(R.filterMap fun r=>rb r.a):=by simp only[CP,List.filterMap_cons,ha]
   have hp:(H.map (·.b)++b::(R.filterMap fun r=>rb r.a)).Perm (b::CP H R):=List.perm_middle
   have hw0:X.w0.heap.size≤b:=Nat.le_trans h.stp.size hn
   exact {h1 with
     row:=fun r hm=>by rcases List.mem_cons.1 hm with rfl|hm;exact hr;exact h1.row r hm,
     nd:=by rw[ho];exact hp.nodup_iff.2 (List.nodup_cons.2 ⟨fun hm=>by have:=h.lt hm;omega,h1.nd⟩),
     own:=fun k hk=>by
       rw[ho] at hk
       rcases List.mem_cons.1 (hp.mem_iff.1 hk) with rfl|hk
       · exact⟨hz,.inl hw0,fun hm=>by have:=(h.mi _ hm).1;omega⟩
       · exact h1.own k hk,
     rnw:=fun r hm b' hb'=>by
       rcases List.mem_cons.1 hm with rfl|hm
       · rw[ha] at hb';cases hb';exact hw0
       · exact h1.rnw r hm b' hb' }
section
variable{P:Program}{n:Nat}{Q:Bk}{ds:List Deferred}{X:Cx}{R:List RB}{B:List FB}{Fs:List (World→Fq→Prop)}{fs:List Fr}{σ:Bo}{H:List HB}
variable{all r:List Oper}{ty T:TypeId}{pos:String}{af:Array Edge}{g:Option (Nat×Bool)}{d:Nat}{op:Op}{fid:FuncId}{args:Array Value}{α:Type}
theorem JY{val:α→Value}{q:α→Prop}{F':α→List (World→Fq→Prop)}{pe:Int×Int→Prop}
   (hg:gd all σ g=some true) (hd:Nat.blt d n=true) (he:∀w,Enters P σ op ty w fid args)
   (hc:∀w f,AX X w f H R B Fs→BQ P fid args w (BV val q F' w f) (SD T pe w f)) (hm:∀x,Af (F' x))
   (hp:∀e w' f',pe e→CM X.M X.w0 X.f0 w' f'→Q.p (QI T e) σ ds w')
   (h:∀x,q x→AF P n Q ds X R B (F' x++Fs) (.ops all r) fs (AL σ d (val x)) H):AF P n Q ds X R B Fs (.ops all (⟨some d,op,ty,pos,af,g⟩::r)) fs σ H:=fun w f hM=>by
 refine BD hg (Cf hd (he w) (hc w f hM) ?_ ?_)
 · rintro v w' ⟨x,f',rfl,hq,hE,hF⟩
   exact h x hq w' f' ((hM.call0 hE).more (B':=[]) (fun _ h=>by cases h) hF.mem (hm x).mem)
 · rintro c w' ⟨e,f',rfl,hq,hE⟩
   rw[Mo]
   exact hp e w' f' hq (hM.call0 hE).exm
theorem fG{pe:Int×Int→Prop}(hg:gd all σ g=some true)(hd:Nat.blt d n=true)(he:∀w,Enters P σ op ty w fid args)
   (hc:∀w f,AX X w f H R B Fs→BQ P fid args w (fun _ _=>False) (SD T pe w f))
   (hp:∀e w' f',pe e→CM X.M X.w0 X.f0 w' f'→Q.p (QI T e) σ ds w'):AF P n Q ds X R B Fs (.ops all (⟨some d,op,ty,pos,af,g⟩::r)) fs σ H :=
 JY (α:=Unit) (val:=fun _=>.tuple #[]) (q:=fun _=>False) (F':=fun _=>[]) hg hd he (fun w f hM=>(hc w f hM).mono (fun _ _ h=>h.elim) fun _ _ h=>h) (fun _=>trivial) hp (fun _ h=>h.elim)
theorem WO{e:TypeId}{size:Nat}{m:α→Nat}{xs:α→List Value}{q:α→Prop}{F':α→List (World→Fq→Prop)}{pe:Int×Int→Prop}
   (hg:gd all σ g=some true) (hd:Nat.blt d n=true) (he:∀w,Enters P σ op ty w fid args)
   (hc:∀w f,AX X w f H R B Fs→BQ P fid args w (Ye e size m xs q F' w f) (SD T pe w f)) (hm:∀x,Af (F' x))
   (hp:∀e w' f',pe e→CM X.M X.w0 X.f0 w' f'→Q.p (QI T e) σ ds w')
   (h:∀x a c,q x→AF P n Q ds X (⟨e,size,a,c,m x,xs x⟩::R) B (F' x++Fs) (.ops all r) fs (AL σ d (.slice a (m x) c)) H):AF P n Q ds X R B Fs (.ops all (⟨some d,op,ty,pos,af,g⟩::r)) fs σ H:=fun w f hM=>by
 refine BD hg (Cf hd (he w) (hc w f hM) ?_ ?_)
 · rintro v w' ⟨x,a,c,f',rfl,hq,hE,hr,hb,hF⟩
   exact h x a c hq w' f' ((hM.addRow hE hr hb).more (B':=[]) (fun _ h=>by cases h) hF.mem (hm x).mem)
 · rintro c w' ⟨e,f',rfl,hq,hE⟩
   rw[Mo]
   exact hp e w' f' hq (hM.call0 hE).exm
end
end Go.SW
namespace Go.SP
open Go.SW Go.RowKit
def Xb(w:World)(f:Fq):Fo→Nat→Nat→Prop
 |.nil,_,_=>True
 |.cons t k r,b,off=>(∃a c,Cs w f b off [.int .i64 t.k,.int .i64 t.ln,.int .i64 t.co,.int .i64 t.nm,S t.tx,.slice a k.len c]∧k.len≤c∧(k=.nil∨∃b' off',a=some ⟨b',off',none⟩∧Xb w f k b' off'))∧Xb w f r b (off+6)
def Bu(w:World)(f:Fq)(k:Fo)(a:Option Addr)(c:Nat):Prop:=k.len≤c∧(k=.nil∨∃b off,a=some ⟨b,off,none⟩∧Xb w f k b off)
theorem Xb.mono{w w':World}{f f':Fq}(hF:Jf w f w' f'):∀(k:Fo)(b off:Nat),Xb w f k b off→Xb w' f' k b off
 |.nil,_,_,_=>trivial
 |.cons _ k r,b,off,⟨⟨a,c,h1,h2,h3⟩,h4⟩=>⟨⟨a,c,h1.mono hF,h2,h3.imp id fun⟨b',off',h5,h6⟩=>⟨b',off',h5,Xb.mono hF k b' off' h6⟩⟩,Xb.mono hF r b _ h4⟩
theorem Bu.mono{k:Fo}{a:Option Addr}{c:Nat}:G0 (fun w f=>Bu w f k a c):=fun _ _ _ _ h hF=>⟨h.1,h.2.imp id fun⟨b,off,h1,h2⟩=>⟨b,off,h1,Xb.mono hF k b off h2⟩⟩
theorem Bu.nil(w:World)(f:Fq)(a:Option Addr)(c:Nat):Bu w f .nil a c:=⟨Nat.zero_le _,.inl rfl⟩
def A9(w:World)(f:Fq)(a:Option Addr)(i:Nat)(r:Fo):Prop:=r=.nil∨∃b off,a=some ⟨b,off,none⟩∧Xb w f r b (off+i*6)
theorem A9.mono{a:Option Addr}{i:Nat}{r:Fo}:G0 (fun w f=>A9 w f a i r):=fun _ _ _ _ h hF=>h.imp id fun⟨b,off,h1,h2⟩=>⟨b,off,h1,Xb.mono hF r b _ h2⟩
theorem Bu.at{w:World}{f:Fq}{k:Fo}{a:Option Addr}{c:Nat}(h:Bu w f k a c):A9 w f a 0 k:=h.2.imp id fun⟨b,off,h1,h2⟩=>⟨b,off,h1,by simpa using h2⟩
def JJ(t:AT)(a:Option Addr)(n c:Nat):List Value:=[.int .i64 t.k,.int .i64 t.ln,.int .i64 t.co,.int .i64 t.nm,S t.tx,.slice a n c]
abbrev fV(t:AT)(a:Option Addr)(n c:Nat):Value:=.agg #[.int .i64 t.k,.int .i64 t.ln,.int .i64 t.co,.int .i64 t.nm,S t.tx,.slice a n c]
theorem A9.head{w:World}{f:Fq}{a:Option Addr}{i:Nat}{t:AT}{k r:Fo}(h:A9 w f a i (.cons t k r)):∃b off ka kc,a=some ⟨b,off,none⟩∧Cs w f b (off+i*6) (JJ t ka k.len kc)∧Bu w f k ka kc∧A9 w f a (i+1) r:=by
 rcases h with h|⟨b,off,h1,⟨ka,kc,h3,h4⟩,h5⟩
 · cases h
 · exact⟨b,off,ka,kc,h1,h3,h4,.inr ⟨b,off,h1,by rw[show off+(i+1)*6=off+i*6+6 by omega];exact h5⟩⟩
theorem A9.rest{w:World}{f:Fq}{a:Option Addr}{t:AT}{k r:Fo}{c:Nat}(h:Bu w f (.cons t k r) a c):Bu w f r (D4 a c 6) (c-1):=by
 obtain⟨h1,h2⟩:=h
 simp only[Fo.len] at h1
 refine⟨oM,?_⟩
 rcases h2 with h2|⟨b,off,rfl,h3,h4⟩
 · cases h2
 · by_cases hc:c=1
   · left
     cases r with
     |nil=>rfl
     |cons _ _ _=>simp only[Fo.len] at h1;omega
   · exact .inr ⟨b,off+1*6,by unfold D4;rw[if_neg hc];rfl,h4⟩
def Ce(w:World)(f:Fq):Nd→List Value→Prop
 |.nil,xs=>xs=[]
 |.cons op ln co tx nm k r,xs=>∃a c xs',xs=F9 op ln co tx nm a k.len c++xs'∧AK w f k a c∧Ce w f r xs'
theorem Ce.mono'{w w':World}{f f':Fq}(hF:Jf w f w' f'):∀(k:Nd)(xs:List Value),Ce w f k xs→Ce w' f' k xs
 |.nil,_,h=>h
 |.cons _ _ _ _ _ _ r,_,⟨a,c,xs',h1,h2,h3⟩=>⟨a,c,xs',h1,AK.mono _ _ _ _ h2 hF,Ce.mono' hF r xs' h3⟩
theorem Ce.mono{k:Nd}{xs:List Value}:G0 (fun w f=>Ce w f k xs):=fun _ _ _ _ h hF=>Ce.mono' hF k xs h
theorem Ce.app{w:World}{f:Fq}{y:Nd}{ys:List Value}(hy:Ce w f y ys):∀{x:Nd}{xs:List Value},Ce w f x xs→Ce w f (x.app y) (xs++ys)
 |.nil,xs,h=>by have h:xs=[]:=h;subst h;exact hy
 |.cons _ _ _ _ _ _ r,_,⟨a,c,xs',h1,h2,h3⟩=>⟨a,c,xs'++ys,by rw[h1,List.append_assoc],h2,Ce.app hy h3⟩
theorem Ce.one{w:World}{f:Fq}{op ln co nm:Int}{tx:List UInt8}{k:Nd}{a:Option Addr}{c:Nat}(h:AK w f k a c):Ce w f (.cons op ln co tx nm k .nil) (F9 op ln co tx nm a k.len c):=⟨a,c,[],by simp,h,rfl⟩
theorem Ce.len{w:World}{f:Fq}:∀{k:Nd}{xs:List Value},Ce w f k xs→xs.length=k.len*6
 |.nil,xs,h=>by have h:xs=[]:=h;subst h;rfl
 |.cons _ _ _ _ _ _ r,_,⟨a,c,xs',h1,h2,h3⟩=>by subst h1;have:=Ce.len h3;simp[Nd.len,F9,this];omega
theorem Ce.toG{w:World}{f:Fq}{b:Nat}:∀{k:Nd}{xs:List Value}{off:Nat},Ce w f k xs→Cs w f b off xs→Ui w f k b off
 |.nil,_,_,_,_=>trivial
 |.cons _ _ _ _ _ k r,_,off,⟨a,c,xs',h1,h2,h3⟩,hC=>by
   subst h1
   exact⟨⟨a,c,Cs.le hC,h2⟩,Ce.toG h3 (Cs.drop hC)⟩
theorem Ce.toF{w:World}{f:Fq}{b c:Nat}{k:Nd}{xs:List Value}(h:Ce w f k xs)(hC:Cs w f b 0 xs)(hc:k.len≤c):AK w f k (some ⟨b,0,none⟩) c:=⟨hc,.inr ⟨b,0,rfl,Ce.toG h hC⟩⟩
theorem KD{X:Cx}{w:World}{f:Fq}{H:List HB}{R:List RB}{B:List FB}{Fs:List (World→Fq→Prop)}{e:TypeId}{a:Option Addr}{c m:Nat}{k:Nd}{xs:List Value}(hM:AX X w f H (⟨e,6,a,c,m,xs⟩::R) B Fs)(hL:Ce w f k xs):∃f',AX X w f' H R B Fs∧AK w f' k a c:=by
 have hr:=hM.row _ (.head _)
 have hlen:=Ce.len hL
 have hm:m=k.len:=by have:=hr.1;simp only at this;omega
 rcases hr.2 with ⟨_,_,h⟩|⟨b,l,ha,_,hmc,_⟩
 · simp only at h
   have h0:k=.nil:=by
     cases k with
     |nil=>rfl
     |cons _ _ _ _ _ _ _=>simp only[Nd.len] at hm;omega
   exact⟨f,hM.less (List.Sublist.refl _) (List.sublist_cons_self _ _) (fun _ h=>h) (fun _ h=>h),by rw[h0];exact⟨Nat.zero_le _,.inl rfl⟩⟩
 · simp only at ha hmc
   subst ha
   obtain⟨f',hM'⟩:=(hM.more (B':=[]) (F':=[fun w f=>Ce w f k xs]) (fun _ h=>by cases h) (A1.mem ⟨hL,trivial⟩) (Af.mem ⟨Ce.mono,trivial⟩)).done (i:=0) rfl rfl
   exact⟨f',hM'.less (List.Sublist.refl _) (List.Sublist.refl _) (fun e he=>.tail _ he) (fun φ h=>.tail _ h),Ce.toF (hM'.fact (i:=0) rfl) (hM'.fro _ (.head _)) oM⟩
end Go.SP
namespace Go.SP
open Go.SW Go.RowKit
theorem Nd.app_len:∀x y:Nd,(x.app y).len=x.len+y.len
 |.nil,y=>by simp[Nd.app,Nd.len]
 |.cons _ _ _ _ _ _ r,y=>by simp only[Nd.app,Nd.len,Nd.app_len r y];omega
section
variable{m:AT→Fo→R N}{t:AT}{k r:Fo}{a:N}{dn:Nd}{e:Int×Int}
theorem Tp(h:m t k=.ok a):(match Bw m (.cons t k r) with|.error e=>.error e|.ok b=>.ok (dn.app b):R Nd)=(match Bw m r with|.error e=>.error e|.ok b=>.ok ((dn.app a.one).app b)):=by
 simp only[Bw,h]
 cases Bw m r with
 |error e=>rfl
 |ok b=>simp only[Nd.app_assoc];rfl
theorem WB(h:m t k=.error e):(match Bw m (.cons t k r) with|.error e=>.error e|.ok b=>.ok (dn.app b):R Nd)=.error e:=by simp only[Bw,h]
theorem S4{l:Fo}:Bw m l=(match Bw m l with|.error e=>.error e|.ok b=>.ok (Nd.nil.app b)):=by cases Bw m l <;> rfl
end
theorem Fo.cases1:∀r:Fo,0<r.len→∃t k q,r=.cons t k q
 |.nil,h=>by cases h
 |.cons t k q,_=>⟨t,k,q,rfl⟩
theorem Fo.len0:∀{r:Fo},r.len=0→r=.nil
 |.nil,_=>rfl
 |.cons _ _ _,h=>by simp[Fo.len] at h
abbrev Ig(x:R N)(w:World)(f:Fq):Value→World→Prop:=BV (α:=N×Option Addr×Nat) (fun y=>nV y.1.op y.1.ln y.1.co y.1.tx y.1.nm y.1.kids y.2.1 y.2.2) (fun y=>x=.ok y.1) (fun y=>[fun w f=>AK w f y.1.kids y.2.1 y.2.2]) w f
abbrev IV(T:TypeId)(x:R N)(w:World)(f:Fq):List PanicEntry→World→Prop:=SD T (fun e=>x=.error e) w f
end Go.SP
namespace Go.SP
open Go.SW Go.RowKit
theorem Ye.fro{T:TypeId}{q:Nd×List Value→Prop}{w w':World}{f:Fq}{v:Value}(hv:Vl w f)(h:Ye T 6 (fun x:Nd×List Value=>x.1.len) (fun x=>x.2) q (fun x=>[fun w f=>Ce w f x.1 x.2]) w f v w') :
   BV (α:=(Nd×List Value)×Option Addr×Nat) (fun y=>.slice y.2.1 y.1.1.len y.2.2) (fun y=>q y.1) (fun y=>[fun w f=>AK w f y.1.1 y.2.1 y.2.2]) w f v w':=by
 obtain⟨x,a,c,f',h1,h2,h3,h4,h5,h6,-⟩:=h
 have hM:=(C7 hv (Fs:=[]) trivial trivial).addRow h3 h4 h5
 obtain⟨f2,hM2,h7⟩:=KD hM h6
 exact⟨(x,a,c),f2,h1,h2,hM2.exm,h7,trivial⟩
end Go.SP
namespace Go.SP
open Go.SW Go.RowKit
theorem Hg{P:Program}{σ:Bo}{w:World}{ty T e:TypeId}{x lo:Operand}{k len m c:Nat}{a:Option Addr}(hl:len=m+1)(hx:ev σ x=some (.slice a len c))(hlo:ev σ lo=some (.int .i64 1))(hs:JV P T=some (e,k)):AO P σ (.slice T x (some lo) none none) ty w (.slice (D4 a c k) m (c-1)) w:=by
 subst hl
 exact Vf hx hlo hs
end Go.SP
namespace Go.SP
open Go.SW Go.RowKit
theorem Ce.one'{w:World}{f:Fq}:∀{k:Nd}{xs:List Value},Ce w f k xs→∀v∈xs,v.oneCell'=true
 |.nil,xs,h,v,hv=>by have h:xs=[]:=h;subst h;cases hv
 |.cons _ _ _ _ _ _ r,_,⟨a,c,xs',h1,h2,h3⟩,v,hv=>by
   subst h1
   rcases List.mem_append.1 hv with hv|hv
   · simp only[F9,List.mem_cons,List.not_mem_nil,or_false] at hv
     rcases hv with rfl|rfl|rfl|rfl|rfl|rfl <;> rfl
   · exact Ce.one' h3 v hv
theorem Ce.cons'{w:World}{f:Fq}{nd:N}{r:Nd}{a:Option Addr}{c:Nat}{xs:List Value}(h:AK w f nd.kids a c)(hr:Ce w f r xs):Ce w f (nd.cons r) (F9 nd.op nd.ln nd.co nd.tx nd.nm a nd.kids.len c++xs):=⟨a,c,xs,rfl,h,hr⟩
theorem Fo.two:∀l:Fo,(∃p pk b bk,l=.cons p pk (.cons b bk .nil))∨l.len≠2
 |.nil=>.inr (by simp[Fo.len])
 |.cons _ _ .nil=>.inr (by simp[Fo.len])
 |.cons p pk (.cons b bk .nil)=>.inl ⟨p,pk,b,bk,rfl⟩
 |.cons _ _ (.cons _ _ (.cons _ _ r))=>.inr (by simp only[Fo.len];omega)
theorem Fo.three:∀l:Fo,(∃p pk b bk c ck,l=.cons p pk (.cons b bk (.cons c ck .nil)))∨l.len≠3
 |.nil=>.inr (by simp[Fo.len])
 |.cons _ _ .nil=>.inr (by simp[Fo.len])
 |.cons _ _ (.cons _ _ .nil)=>.inr (by simp[Fo.len])
 |.cons p pk (.cons b bk (.cons c ck .nil))=>.inl ⟨p,pk,b,bk,c,ck,rfl⟩
 |.cons _ _ (.cons _ _ (.cons _ _ (.cons _ _ r)))=>.inr (by simp only[Fo.len];omega)
theorem Fo.single:∀l:Fo,(∃p pk,l=.cons p pk .nil)∨l.len≠1
 |.nil=>.inr (by simp[Fo.len])
 |.cons p pk .nil=>.inl ⟨p,pk,rfl⟩
 |.cons _ _ (.cons _ _ r)=>.inr (by simp only[Fo.len];omega)
section
variable{n:Nat}{ex:AT→Fo→R N}{t:AT}{l:Fo}
theorem oX(h:l.len≠2):Bq n ex t [102,110] l=.error (t.ln,t.co):=by
 unfold Bq
 rw[if_pos (by decide)]
 split
 · simp[Fo.len] at h
 · rfl
theorem iG(h:l.len≠3):Bq n ex t [108,101,116] l=.error (t.ln,t.co):=by
 unfold Bq
 rw[if_neg (by decide),if_pos (by decide)]
 split
 · simp[Fo.len] at h
 · rfl
theorem iW(h:l.len≠3):Bq n ex t [114,101,99] l=.error (t.ln,t.co):=by
 unfold Bq
 rw[if_neg (by decide),if_neg (by decide),if_pos (by decide)]
 split
 · simp[Fo.len] at h
 · rfl
theorem Xp{w:List UInt8}(hw:w=[114,97,105,115,101]∨w=[116,114,97,110,115,97,99,116])(h:l.len≠1):Bq n ex t w l=.error (t.ln,t.co):=by
 unfold Bq
 rw[if_neg (by rcases hw with rfl|rfl <;> decide),if_neg (by rcases hw with rfl|rfl <;> decide),if_neg (by rcases hw with rfl|rfl <;> decide),if_neg (by rcases hw with rfl|rfl <;> decide),if_neg (by rcases hw with rfl|rfl <;> decide),if_neg (by rcases hw with rfl|rfl <;> decide),if_neg (by rcases hw with rfl|rfl <;> decide),if_pos (by rcases hw with rfl|rfl <;> decide)]
 split
 · simp[Fo.len] at h
 · rfl
end
end Go.SP
namespace Go.SW
open Go.RowKit
def tE(w:World)(e:FB):Prop:=∀j v,e.l[j]?=some v→w.cell? ⟨e.b,e.off+j,none⟩=some v
def BK(w:World):List FB→Prop
 | []=>True
 |e::l=>tE w e∧BK w l
theorem Ar(w:World):BK w []:=trivial
theorem kB{w:World}{b:Nat}{l:List Value}{T:TypeId}{B:List FB}(h:AQ w b l T)(hB:BK w B):BK w (⟨b,0,l⟩::B) :=
 ⟨fun j v hj=>by rw[h.cell,Nat.zero_add];exact hj,hB⟩
theorem BK.get{w:World}:∀{B:List FB}{i:Nat}{e:FB},BK w B→nth B i=some e→tE w e
 |_::_,0,_,h,hg=>by cases hg;exact h.1
 |_::B,i+1,e,h,hg=>BK.get (B:=B) h.2 hg
section
variable(P:Program)(n:Nat)(Q:Bk)(ds:List Deferred)(w:World)(B:List FB)(tb:Ea)
def nO(k:M5)(fs:List Fr)(σ:Bo):Prop:=match k with
 |.code c=>HK P n c (MT P n Q fs) σ ds w
 |.ops all l=>H3 P n all.toArray (MT P n Q fs) l σ ds w
 |.out e=>(MT P n Q fs).q e σ ds w
def Ku:Nat→List Nat→M5→List Fr→Bo→Prop
 |0,_,k,fs,σ=>True→nO P n Q ds w k fs σ
 |m+1,hs,.code c,fs,σ=>(match c with
   |.skip=>Ku m hs (.out .normal) fs σ
   |.ret=>Ku m hs (.out .ret) fs σ
   |.exit i=>Ku m hs (.out (.exit i)) fs σ
   |.seq a b=>Ku m hs (.code a) (.sq b::fs) σ
   |.block i a=>Ku m hs (.code a) (.bk i::fs) σ
   |.region _ ⟨l⟩ false=>Ku m hs (.ops l l) fs σ
   |.cond x a b=>(match ev σ x with
     |some (.bool true)=>Ku m hs (.code a) fs σ
     |some (.bool false)=>Ku m hs (.code b) fs σ
     |_=>False)
   |_=>False)
 |m+1,hs,.out e,fs,σ=>(match fs with
   | []=>False
   |.sq y::fs=>(match e with
     |.normal=>Ku m hs (.code y) fs σ
     |.ret=>Ku m hs (.out .ret) fs σ
     |.exit i=>Ku m hs (.out (.exit i)) fs σ
     |_=>False)
   |.bk i::fs=>(match e with
     |.normal=>Ku m hs (.out .normal) fs σ
     |.ret=>Ku m hs (.out .ret) fs σ
     |.exit j=>(match Nat.beq j i with
       |true=>Ku m hs (.out .normal) fs σ
       |false=>Ku m hs (.out (.exit j)) fs σ)
     |_=>False))
 |m+1,hs,.ops all [],fs,σ=>Ku m hs (.out .normal) fs σ
 |m+1,hs,.ops all (⟨dst,op,ty,pos,af,g⟩::r),fs,σ=>(match gd all σ g with
   |none=>False
   |some false=>(match dst with
     |some d=>(match Nat.blt d n with
       |true=>Ku m hs (.ops all r) fs (AL σ d undef)
       |false=>False)
     |none=>False)
   |some true=>(match dst with
     |none=>False
     |some d=>(match Nat.blt d n with|false=>False|true=>(match op with
       |.load T x=>(match hs with
         |h::q::hs=>(match ev σ x,fD tb.ti T with
           |some (.pointer (some ⟨b,o,none⟩)),some (a,k)=>(match nth B h with
             |some ⟨b',off,l⟩=>(match a with
               |false=>(match nth l q with
                 |some v=>(b'=b∧off+q=o)∧Ku m hs (.ops all r) fs (AL σ d v)
                 |none=>False)
               |true=>(match U0 l q k with
                 |some vs=>(b'=b∧off+q=o)∧Ku m hs (.ops all r) fs (AL σ d (.agg ⟨vs⟩))
                 |none=>False))
             |none=>False)
           |_,_=>False)
         |_=>False)
       |.indexAddr T x y=>(match ev σ x,ev σ y,Vs tb.sl T with
         |some (.slice (some ⟨b,o,none⟩) len _),some (.int _ i),some (_,k)=>(0≤i∧i<len)∧Ku m hs (.ops all r) fs (AL σ d (.pointer (some ⟨b,o+i.toNat*k,none⟩)))
         |_,_,_=>False)
       |.index T x y=>(match ev σ x,ev σ y,lK tb.st T with
         |some (.string ⟨⟨s⟩⟩),some (.int _ i),true=>(0≤i∧i<s.length)∧∀c,s[i.toNat]?=some c→Ku m hs (.ops all r) fs (AL σ d (.int .u8 c.toNat))
         |_,_,_=>False)
       |.binOp .add T x y T'=>(match ev σ x,ev σ y with
         |some (.int .i64 a),some (.int .i64 b)=>QB (a+b)∧Ku m hs (.ops all r) fs (AL σ d (.int .i64 (a+b)))
         |_,_=>False)
       |.binOp .sub T x y T'=>(match ev σ x,ev σ y with
         |some (.int .i64 a),some (.int .i64 b)=>QB (a-b)∧Ku m hs (.ops all r) fs (AL σ d (.int .i64 (a-b)))
         |_,_=>False)
       |op=>(match pv tb σ op with
         |some v=>Ku m hs (.ops all r) fs (AL σ d v)
         |none=>False)))))
end
section
variable{P:Program}{n:Nat}{Q:Bk}{ds:List Deferred}{w:World}{B:List FB}{tb:Ea}
theorem FP(ht:tb.Ok P)(hB:BK w B):∀(m:Nat)(hs:List Nat)(k:M5)(fs:List Fr)(σ:Bo),Ku P n Q ds w B tb m hs k fs σ→nO P n Q ds w k fs σ
 |0,_,_,_,_,h=>h trivial
 |m+1,hs,.code c,fs,σ,h=>by
   have ih:=FP ht hB m
   unfold Ku at h
   split at h
   · exact HW (ih _ _ _ _ h)
   · exact JX (ih _ _ _ _ h)
   · exact Lh (ih _ _ _ _ h)
   · exact Cc (ih _ _ _ _ h)
   · exact Eo (ih _ _ _ _ h)
   · exact CJ (ih _ _ _ _ h)
   · split at h
     · rename_i hx;exact FW hx rfl (ih _ _ _ _ h)
     · rename_i hx;exact Kb hx rfl (ih _ _ _ _ h)
     · exact h.elim
   · exact h.elim
 |m+1,hs,.out e,fs,σ,h=>by
   have ih:=FP ht hB m
   unfold Ku at h
   split at h
   · exact h.elim
   · split at h
     · exact D3 (ih _ _ _ _ h)
     · exact Vu (ih _ _ _ _ h)
     · exact Vq (ih _ _ _ _ h)
     · exact h.elim
   · split at h
     · exact DX (ih _ _ _ _ h)
     · exact UR (ih _ _ _ _ h)
     · split at h
       · rename_i hb
         have e:=Nat.eq_of_beq_eq_true hb
         subst e
         exact OK (ih _ _ _ _ h)
       · rename_i hb;exact cW hb (ih _ _ _ _ h)
     · exact h.elim
 |m+1,hs,.ops all [],fs,σ,h=>by
   unfold Ku at h
   exact Ab (FP ht hB m _ _ _ _ h)
 |m+1,hs,.ops all (⟨dst,op,ty,pos,af,g⟩::r),fs,σ,h=>by
   have ih:=FP ht hB m
   unfold Ku at h
   split at h
   · exact h.elim
   · rename_i hg
     split at h
     · split at h
       · rename_i hd;exact MQ hg hd (ih _ _ _ _ h)
       · exact h.elim
     · exact h.elim
   · rename_i hg
     refine BD hg ?_
     split at h
     · exact h.elim
     · split at h
       · exact h.elim
       rename_i hd
       split at h
       · split at h
         · split at h
           · rename_i hx hT
             split at h
             · rename_i hB'
               have hc:=hB.get hB'
               split at h
               · split at h
                 · rename_i v hv
                   obtain⟨⟨rfl,rfl⟩,h⟩:=h
                   rw[F6] at hv
                   exact Aa hd (JB hx (G1 ht.ti hT) (hc _ v hv)) (ih _ _ _ _ h)
                 · exact h.elim
               · split at h
                 · rename_i vs hv
                   obtain⟨⟨rfl,rfl⟩,h⟩:=h
                   obtain⟨hk,hg2⟩:=PZ hv
                   exact Aa hd (Lo hx (G1 ht.ti hT) hk (fun j v hj=>by have:=hc _ v (hg2 j v hj);rwa[← Nat.add_assoc] at this)) (ih _ _ _ _ h)
                 · exact h.elim
             · exact h.elim
           · exact h.elim
         · exact h.elim
       · split at h
         · rename_i hx hy hT
           exact Aa hd (MK hx hy (K3 ht.sl hT) h.1) (ih _ _ _ _ h.2)
         · exact h.elim
       · split at h
         · rename_i s _ i hx hy hT
           obtain⟨h1,h⟩:=h
           have hlt:i.toNat<s.length:=oM
           exact Aa hd (DB hx hy (PS ht.st hT) h1.1 (List.getElem?_eq_getElem hlt)) (ih _ _ _ _ (h _ (List.getElem?_eq_getElem hlt)))
         · exact h.elim
       · split at h
         · rename_i hx hy
           exact Aa hd (Nj hx hy h.1) (ih _ _ _ _ h.2)
         · exact h.elim
       · split at h
         · rename_i hx hy
           exact Aa hd (He hx hy h.1) (ih _ _ _ _ h.2)
         · exact h.elim
       · split at h
         · rename_i v hv
           exact Aa hd (Pv ht hv) (ih _ _ _ _ h)
         · exact h.elim
theorem gL{all r:List Oper}{σ:Bo}(fs:List Fr)(ht:tb.Ok P)(m:Nat)(hs:List Nat)(hB:BK w B)(h:Ku P n Q ds w B tb m hs (.ops all r) fs σ):H3 P n all.toArray (MT P n Q fs) r σ ds w:=FP ht hB m hs _ fs σ h
theorem gP{c:Code}{σ:Bo}(fs:List Fr)(ht:tb.Ok P)(m:Nat)(hs:List Nat)(hB:BK w B)(h:Ku P n Q ds w B tb m hs (.code c) fs σ):HK P n c (MT P n Q fs) σ ds w:=FP ht hB m hs _ fs σ h
theorem gQ{e:Exit}{σ:Bo}(fs:List Fr)(ht:tb.Ok P)(m:Nat)(hs:List Nat)(hB:BK w B)(h:Ku P n Q ds w B tb m hs (.out e) fs σ):(MT P n Q fs).q e σ ds w:=FP ht hB m hs _ fs σ h
theorem sL{all:Array Oper}{r:List Oper}{Q:Bk}{σ:Bo}{b:Bool}(t:Nat)(hx:σ t=some (.bool b))(h1:b=true→H3 P n all Q r (AL σ t (.bool true)) ds w)(h2:b=false→H3 P n all Q r (AL σ t (.bool false)) ds w):H3 P n all Q r σ ds w:=by
 cases b with
 |true=>exact fun a ha=>h1 rfl a (ha.le (AD (le_refl _) hx))
 |false=>exact fun a ha=>h2 rfl a (ha.le (AD (le_refl _) hx))
theorem sP{c:Code}{Q:Bk}{σ:Bo}{b:Bool}(t:Nat)(hx:σ t=some (.bool b))(h1:b=true→HK P n c Q (AL σ t (.bool true)) ds w)(h2:b=false→HK P n c Q (AL σ t (.bool false)) ds w):HK P n c Q σ ds w:=by
 cases b with
 |true=>exact N1 (AD (le_refl _) hx) (h1 rfl)
 |false=>exact N1 (AD (le_refl _) hx) (h2 rfl)
theorem kP{c:Code}{Q:Bk}{σ:Bo}{b:Bool}(t:Nat)(c':Bool)(hx:σ t=some (.bool b))(hb:b=c')(h:HK P n c Q (AL σ t (.bool c')) ds w):HK P n c Q σ ds w:=by
 subst hb
 exact N1 (AD (le_refl _) hx) h
end
def mZ(σ0:Bo)(I:World→Prop)(ds0:List Deferred)(Q:Bk):Bk :=
 {q:=fun e σ ds w=>match e with|.normal=>Le σ0 σ∧ds=ds0∧I w|e=>Q.q e σ ds w,p:=Q.p}
theorem PT{P:Program}{n:Nat}{Q:Bk}{σ:Bo}{ds:List Deferred}{w:World}{x y:Code}(σ0:Bo)(I:World→Prop)(h1:HK P n x (mZ σ0 I ds Q) σ ds w)(h2:∀w',I w'→HK P n y Q σ0 ds w'):HK P n (.seq x y) Q σ ds w :=
 Cc fun a ha=>wp_mono (h1 a ha) fun e a' w' he=>by
   cases e with
   |normal=>obtain⟨σ',ds',hs,hl,rfl,hI⟩:=he;exact⟨σ',_,hs,N1 hl (h2 w' hI)⟩
   |panic c=>exact he
   |outgrown=>exact he
   |ret=>exact he
   |exit i=>exact he
   |goto i=>exact he
theorem OB{σ0 σ:Bo}{I:World→Prop}{ds:List Deferred}{Q:Bk}{w:World}(hl:Le σ0 σ)(h:I w):(mZ σ0 I ds Q).q .normal σ ds w:=⟨hl,rfl,h⟩
end Go.SW
namespace Go.Proofs.YthofplgbhecdcaaGreatDoor
open Go.SW Go.SP Go.RowKit
def qX:Ea:=⟨[(81,0,0),(79,0,0),(79,3,4)],[],[],[],[(3,false,1),(81,true,6),(9,false,1)],[],[],[]⟩
theorem EN:qX.Ok Tryz.prog:=⟨(And.intro XT (And.intro Zd (And.intro Xs trivial))),trivial,trivial,trivial,(And.intro PX (And.intro Nx (And.intro U6 trivial))),trivial,trivial,trivial⟩
theorem Vo{l:List UInt8}(h:l≠[]):l[(0:Int).toNat]?=some (XD l):=by cases l <;> simp_all [XD]
theorem C3(w:World)(t:AT)(kv:Value) :
  BF Tryz.prog 30 #[.agg #[.int .i64 t.k,.int .i64 t.ln,.int .i64 t.co,.int .i64 t.nm,S t.tx,kv]] w fun v w'=>v=.bool (t.k==0)∧AV w w':=by
 have hX:=AV.refl w
 refine enter Tryz.func30 rfl rfl rfl<|gP [] EN 2 [] (Ar _) (fun _=>En rfl rfl rfl fun b1 w1 hb1 hE1 hs1 hz1=>?_)
 replace hX:=hX.trans hE1
 exact gL [.sq _] EN 13 [0,0] (kB hb1 (Ar _)) (y2<|fun _=>By (AI rfl (Aj rfl))<|⟨rfl,hX⟩)
theorem Gm(w:World)(t:AT)(kv:Value) :
  BF Tryz.prog 31 #[.agg #[.int .i64 t.k,.int .i64 t.ln,.int .i64 t.co,.int .i64 t.nm,S t.tx,kv]] w fun v w'=>v=.bool (t.k==5)∧AV w w':=by
 have hX:=AV.refl w
 refine enter Tryz.func31 rfl rfl rfl<|gP [] EN 2 [] (Ar _) (fun _=>En rfl rfl rfl fun b1 w1 hb1 hE1 hs1 hz1=>?_)
 replace hX:=hX.trans hE1
 exact gL [.sq _] EN 13 [0,0] (kB hb1 (Ar _)) (y2<|fun _=>By (AI rfl (Aj rfl))<|⟨rfl,hX⟩)
theorem DC(w:World)(t:AT)(kv:Value)(s:List UInt8) :
  BF Tryz.prog 63 #[.agg #[.int .i64 t.k,.int .i64 t.ln,.int .i64 t.co,.int .i64 t.nm,S t.tx,kv],S s] w fun v w'=>v=.bool (t.isWord s)∧AV w w':=by
 have hX:=AV.refl w
 refine enter Tryz.func63 rfl rfl rfl<|gP [] EN 2 [] (Ar _) (fun _=>En rfl rfl rfl fun b1 w1 hb1 hE1 hs1 hz1=>?_)
 replace hX:=hX.trans hE1
 refine gL [.sq _] EN 6 [0,0] (kB hb1 (Ar _)) (y2<|fun _=>A7 rfl (Aw Xl rfl rfl) (Gm _ ⟨_,_,_,_,_⟩ _) ?_)
 rintro _ w2 ⟨rfl,hE2⟩
 replace hb1:=hb1.ext hE2
 replace hX:=hX.trans hE2
 have sz1:=hE2.size
 refine Aa rfl (A0 rfl)<|sL 7 rfl (fun h1=>?_) (fun h1=>?_)
 exact gL [.sq _] EN 10 [0,4] (kB hb1 (Ar _)) (y2<|fun _=>By (AI rfl (Aj rfl))<|⟨by simp[AT.isWord,h1],hX⟩)
 exact gL [.sq _] EN 10 [] (Ar _) (fun _=>By (AI rfl (Aj rfl))<|⟨by simp[AT.isWord,h1],hX⟩)
theorem Dp(w:World)(n lo hi:Int) :
  BF Tryz.prog 64 #[.int .i64 n,.int .i64 lo,.int .i64 hi] w fun v w'=>v=.bool (SP.within n lo hi)∧AV w w':=by
 have hX:=AV.refl w
 refine enter Tryz.func64 rfl rfl rfl<|gP [] EN 11 [] (Ar _) (fun _=>sL 10 rfl (fun h1=>?_) (fun h1=>?_))
 exact gL [.sq _] EN 8 [] (Ar _) (fun _=>By (AI rfl (Aj rfl))<|⟨by simp[SP.within,h1],hX⟩)
 exact gL [.sq _] EN 8 [] (Ar _) (fun _=>By (AI rfl (Aj rfl))<|⟨by simp[SP.within,h1],hX⟩)
theorem Fa(w:World)(hG:Gl w)(t:AT)(kv:Value)(htx:t.k=5→t.tx≠[])(hlen:t.tx.length≤100000) :
  BF Tryz.prog 36 #[.agg #[.int .i64 t.k,.int .i64 t.ln,.int .i64 t.co,.int .i64 t.nm,S t.tx,kv]] w fun v w'=>v=.bool t.isVar∧AV w w':=by
 have hX:=AV.refl w
 refine enter Tryz.func36 rfl rfl rfl<|gP [] EN 2 [] (Ar _) (fun _=>En rfl rfl rfl fun b1 w1 hb1 hE1 hs1 hz1=>?_)
 replace hX:=hX.trans hE1
 refine gL [.sq _] EN 6 [0,0] (kB hb1 (Ar _)) (y2<|fun _=>A7 rfl (Aw Xl rfl rfl) (Gm _ ⟨_,_,_,_,_⟩ _) ?_)
 rintro _ w2 ⟨rfl,hE2⟩
 replace hb1:=hb1.ext hE2
 replace hX:=hX.trans hE2
 have sz1:=hE2.size
 refine Aa rfl (A0 rfl)<|sL 5 rfl (fun h1=>?_) (fun h1=>?_)
 refine gL [.sq _] EN 6 [0,4] (kB hb1 (Ar _)) (y2<|fun _=>sL 11 rfl (fun h2=>?_) (fun h2=>?_))
 refine gL [.sq _] EN 3 [0,4] (kB hb1 (Ar _)) (y2<|fun _=>BG rfl rfl rfl<|Aa rfl (DB rfl rfl Im dC (Vo (htx (by simpa using h1))))<|gL [.sq _] EN 3 [] (Ar _) (fun _=>sL 18 rfl (fun h3=>?_) (fun h3=>?_)))
 refine gL [.sq _] EN 3 [0,4] (kB hb1 (Ar _)) (y2<|fun _=>BG rfl rfl rfl<|Aa rfl (JN rfl rfl (by simp;omega))<|BG rfl rfl rfl<|Aa rfl (JN rfl rfl (by simp;omega))<|BG rfl rfl rfl<|A7 rfl (Aw cO rfl rfl) (HT _ (hG.ext hX) _ _ dC) ?_)
 rintro _ w3 ⟨rfl,hE3⟩
 replace hb1:=hb1.ext hE3
 replace hX:=hX.trans hE3
 have sz2:=hE3.size
 refine gL [.sq _] EN 6 [] (Ar _) (fun _=>By (AI rfl (Aj rfl))<|⟨?_,hX⟩)
 show _=Value.bool (t.k==5&&(!(t.tx==[95])&&(((XD t.tx).toNat:Int) != 39&&!ML t.tx)))
 rw[h1,h2,h3];rfl
 refine gL [.sq _] EN 12 [] (Ar _) (fun _=>By (AI rfl (Aj rfl))<|⟨?_,hX⟩)
 show _=Value.bool (t.k==5&&(!(t.tx==[95])&&(((XD t.tx).toNat:Int) != 39&&!ML t.tx)))
 simp[h1,h2,h3]
 refine gL [.sq _] EN 19 [] (Ar _) (fun _=>By (AI rfl (Aj rfl))<|⟨?_,hX⟩)
 show _=Value.bool (t.k==5&&(!(t.tx==[95])&&(((XD t.tx).toNat:Int) != 39&&!ML t.tx)))
 simp[h1,h2]
 refine gL [.sq _] EN 25 [] (Ar _) (fun _=>By (AI rfl (Aj rfl))<|⟨?_,hX⟩)
 show _=Value.bool (t.k==5&&(!(t.tx==[95])&&(((XD t.tx).toNat:Int) != 39&&!ML t.tx)))
 simp[h1]
def pJ:Ea:=⟨[(81,0,0),(79,3,4),(79,1,1),(81,1,5)],[(43,81,6)],[9],[],[(81,true,6),(9,false,1),(25,true,2),(43,false,1)],[(41,[.int .i64 0,.int .i64 0]),(54,[.int .i64 0,.int .i64 0,.int .i64 0,.string ⟨#[]⟩,.int .i64 0,.slice none 0 0])],[(41,[(0,2)]),(54,[(0,1),(1,2),(3,1),(4,1),(5,1)])],[]⟩
theorem DE:pJ.Ok Tryz.prog:=⟨(And.intro XT (And.intro Xs (And.intro SH (And.intro gG trivial)))),(And.intro K7 trivial),(And.intro Im trivial),trivial,(And.intro Nx (And.intro U6 (And.intro Hw (And.intro JI trivial)))),(And.intro jJ (And.intro mL trivial)),(And.intro gV (And.intro rO trivial)),trivial⟩
theorem Jq(w:World)(hG:Gl w)(t:AT)(kv:Value)(htx:t.k=5→t.tx≠[])(hlen:t.tx.length≤100000) :
  BF Tryz.prog 93 #[.agg #[.int .i64 t.k,.int .i64 t.ln,.int .i64 t.co,.int .i64 t.nm,S t.tx,kv]] w fun v w'=>v=.bool t.isHole∧AV w w':=by
 have hX:=AV.refl w
 refine enter Tryz.func93 rfl rfl rfl<|gP [] DE 2 [] (Ar _) (fun _=>En rfl rfl rfl fun b1 w1 hb1 hE1 hs1 hz1=>?_)
 replace hX:=hX.trans hE1
 refine gL [.sq _] DE 6 [0,0] (kB hb1 (Ar _)) (y2<|fun _=>A7 rfl (Aw dO rfl rfl) (Fa _ (hG.ext hX) ⟨_,_,_,_,_⟩ _ htx hlen) ?_)
 rintro _ w2 ⟨rfl,hE2⟩
 replace hb1:=hb1.ext hE2
 replace hX:=hX.trans hE2
 have sz1:=hE2.size
 refine Aa rfl (A0 rfl)<|sL 5 rfl (fun h1=>?_) (fun h1=>?_)
 exact gL [.sq _] DE 7 [] (Ar _) (fun _=>By (AI rfl (Aj rfl))<|⟨by simp[AT.isHole,h1],hX⟩)
 refine gL [.sq _] DE 1 [0,0] (kB hb1 (Ar _)) (y2<|fun _=>BG rfl rfl rfl<|A7 rfl (Aw oH rfl rfl) (DC _ ⟨_,_,_,_,_⟩ _ _) ?_)
 rintro _ w3 ⟨rfl,hE3⟩
 replace hb1:=hb1.ext hE3
 replace hX:=hX.trans hE3
 have sz2:=hE3.size
 exact gL [.sq _] DE 5 [] (Ar _) (fun _=>By (AI rfl (Aj rfl))<|⟨by simp[AT.isHole,h1],hX⟩)
theorem Gq(w:World)(hG:Gl w)(t:AT)(kv:Value)(htx:t.k=5→t.tx≠[])(hlen:t.tx.length≤100000) :
  BF Tryz.prog 32 #[.agg #[.int .i64 t.k,.int .i64 t.ln,.int .i64 t.co,.int .i64 t.nm,S t.tx,kv]] w fun v w'=>v=.bool t.isTypeName∧AV w w':=by
 have hX:=AV.refl w
 refine enter Tryz.func32 rfl rfl rfl<|gP [] DE 2 [] (Ar _) (fun _=>En rfl rfl rfl fun b1 w1 hb1 hE1 hs1 hz1=>?_)
 replace hX:=hX.trans hE1
 refine gL [.sq _] DE 6 [0,0] (kB hb1 (Ar _)) (y2<|fun _=>A7 rfl (Aw dO rfl rfl) (Fa _ (hG.ext hX) ⟨_,_,_,_,_⟩ _ htx hlen) ?_)
 rintro _ w2 ⟨rfl,hE2⟩
 replace hb1:=hb1.ext hE2
 replace hX:=hX.trans hE2
 have sz1:=hE2.size
 refine Aa rfl (A0 rfl)<|sL 5 rfl (fun h1=>?_) (fun h1=>?_)
 refine gL [.sq _] DE 3 [0,4] (kB hb1 (Ar _)) (y2<|fun _=>BG rfl rfl rfl<|Aa rfl (JN rfl rfl (by simp;omega))<|BG rfl rfl rfl<|Aa rfl (JN rfl rfl (by simp;omega))<|BG rfl rfl rfl<|A7 rfl (Aw cO rfl rfl) (HT _ (hG.ext hX) _ _ dC) ?_)
 rintro _ w3 ⟨rfl,hE3⟩
 replace hb1:=hb1.ext hE3
 replace hX:=hX.trans hE3
 have sz2:=hE3.size
 refine gL [.sq _] DE 6 [] (Ar _) (fun _=>By (AI rfl (Aj rfl))<|⟨?_,hX⟩)
 show _=Value.bool (t.isVar&&!Uh t.tx)
 rw[h1];rfl
 refine gL [.sq _] DE 12 [] (Ar _) (fun _=>By (AI rfl (Aj rfl))<|⟨?_,hX⟩)
 show _=Value.bool (t.isVar&&!Uh t.tx)
 simp[h1]
theorem JG(w:World)(t:AT)(kv:Value)(htx:t.k=5→t.tx≠[]) :
  BF Tryz.prog 33 #[.agg #[.int .i64 t.k,.int .i64 t.ln,.int .i64 t.co,.int .i64 t.nm,S t.tx,kv]] w fun v w'=>v=.bool t.isTypeVar∧AV w w':=by
 have hX:=AV.refl w
 refine enter Tryz.func33 rfl rfl rfl<|gP [] DE 2 [] (Ar _) (fun _=>En rfl rfl rfl fun b1 w1 hb1 hE1 hs1 hz1=>?_)
 replace hX:=hX.trans hE1
 refine gL [.sq _] DE 6 [0,0] (kB hb1 (Ar _)) (y2<|fun _=>A7 rfl (Aw Xl rfl rfl) (Gm _ ⟨_,_,_,_,_⟩ _) ?_)
 rintro _ w2 ⟨rfl,hE2⟩
 replace hb1:=hb1.ext hE2
 replace hX:=hX.trans hE2
 have sz1:=hE2.size
 refine Aa rfl (A0 rfl)<|sL 5 rfl (fun h1=>?_) (fun h1=>?_)
 refine gL [.sq _] DE 3 [0,4] (kB hb1 (Ar _)) (y2<|fun _=>BG rfl rfl rfl<|Aa rfl (DB rfl rfl Im dC (Vo (htx (by simpa using h1))))<|gL [.sq _] DE 3 [] (Ar _) (fun _=>sL 12 rfl (fun h2=>?_) (fun h2=>?_)))
 refine gL [.sq _] DE 10 [0,4] (kB hb1 (Ar _)) (y2<|fun _=>By (AI rfl (Aj rfl))<|⟨?_,hX⟩)
 show _=Value.bool (t.k==5&&(((XD t.tx).toNat:Int)==39&&decide (1<(t.tx.length:Int))))
 rw[h1,h2];rfl
 refine gL [.sq _] DE 10 [] (Ar _) (fun _=>By (AI rfl (Aj rfl))<|⟨?_,hX⟩)
 show _=Value.bool (t.k==5&&(((XD t.tx).toNat:Int)==39&&decide (1<(t.tx.length:Int))))
 simp[h1,h2]
 refine gL [.sq _] DE 17 [] (Ar _) (fun _=>By (AI rfl (Aj rfl))<|⟨?_,hX⟩)
 show _=Value.bool (t.k==5&&(((XD t.tx).toNat:Int)==39&&decide (1<(t.tx.length:Int))))
 simp[h1]
theorem IX(w:World)(t:AT)(kv:Value) :
  BQ Tryz.prog 40 #[.agg #[.int .i64 t.k,.int .i64 t.ln,.int .i64 t.co,.int .i64 t.nm,S t.tx,kv]] w (fun v w'=>False) (fun c w'=>c=QI 41 (t.ln,t.co)∧AV w w'):=by
 have hX:=AV.refl w
 refine IF Tryz.func40 rfl rfl rfl<|gP [] DE 2 [] (Ar _) (fun _=>En rfl rfl rfl fun b1 w1 hb1 hE1 hs1 hz1=>?_)
 replace hX:=hX.trans hE1
 exact gL [.sq _] DE 7 [0,1] (kB hb1 (Ar _)) (y2<|fun _=>Aa rfl (BY rfl cM)<|Ct (BM rfl) (And.intro rfl<|⟨rfl,hX⟩))
theorem U5(w:World)(t:AT)(kv:Value)(ok:Bool) :
  BQ Tryz.prog 29 #[.agg #[.int .i64 t.k,.int .i64 t.ln,.int .i64 t.co,.int .i64 t.nm,S t.tx,kv],.bool ok] w (fun v w'=>ok=true∧v=.tuple #[]∧AV w w') (fun c w'=>ok=false∧c=QI 41 (t.ln,t.co)∧AV w w'):=by
 have hX:=AV.refl w
 refine IF Tryz.func29 rfl rfl rfl<|gP [] DE 2 [] (Ar _) (fun _=>En rfl rfl rfl fun b1 w1 hb1 hE1 hs1 hz1=>?_)
 replace hX:=hX.trans hE1
 refine gL [.sq _] DE 8 [] (Ar _) (fun _=>sP 5 rfl (fun h1=>?_) (fun h1=>?_))
 replace h1:=FL h1
 refine gP [] DE 3 [0,0] (kB hb1 (Ar _)) (y2<|fun _=>Cf rfl (Aw oD rfl rfl) (IX _ ⟨_,_,_,_,_⟩ _) (fun _ _ hf=>hf.elim) (fun c wp hc=>And.intro rfl (⟨h1,hc.1,hX.trans hc.2⟩)))
 replace h1:=Gn h1
 exact gP [] DE 2 [] (Ar _) (fun _=>Gu (DT rfl)<|⟨h1,rfl,hX⟩)
theorem AE(w:World)(t:AT)(kv:Value)(op:Int)(tx:List UInt8)(ka:Option Addr)(kn kc:Nat) :
  BF Tryz.prog 34 #[.agg #[.int .i64 t.k,.int .i64 t.ln,.int .i64 t.co,.int .i64 t.nm,S t.tx,kv],.int .i64 op,S tx,.slice ka kn kc] w fun v w'=>v=.agg #[.int .i64 op,.int .i64 t.ln,.int .i64 t.co,S tx,.int .i64 0,.slice ka kn kc]∧AV w w':=by
 have hX:=AV.refl w
 refine enter Tryz.func34 rfl rfl rfl<|gP [] DE 2 [] (Ar _) (fun _=>En rfl rfl rfl fun b1 w1 hb1 hE1 hs1 hz1=>?_)
 replace hX:=hX.trans hE1
 refine CO rfl mL fun b2 w2 hb2 hE2 hs2 hz2=>?_
 replace hb1:=hb1.ext hE2
 replace hX:=hX.trans hE2
 refine gL [.sq _] DE 11 [0,1] (kB hb1 (Ar _)) (y2<|fun _=>A4 rfl rfl rfl oW rfl hb2 rfl rfl fun w3 hb3 hC1=>?_)
 replace hb1:=hb1.chg hC1 oM
 replace hX:=hX.chg hC1 oM
 have sz1:=hC1.size
 exact gL [.sq _] DE 3 [] (Ar _) (fun _=>By (AI rfl (Ac rfl oW hb3 rfl))<|⟨rfl,hX⟩)
end Go.Proofs.YthofplgbhecdcaaGreatDoor
namespace Go.Proofs.YthofplgbhecdcaaGreatDoor
open Go.SW Go.RowKit
theorem Dq:Oq Tryz.prog 52=some (56,4,56,[.int .i64 0,.int .i64 0,.string ⟨#[]⟩,.slice none 0 0]):=kR
theorem Me:Oq Tryz.prog 90=some (3,1,8,[.int .i64 0]):=kR
theorem jD:Oq Tryz.prog 131=some (9,1,16,[.string ⟨#[]⟩]):=kR
theorem cD:Xn Tryz.prog 3 21=some .i32:=kR
theorem B5:BS Tryz.prog 20:=Ao Tryz.func20 kR kR
theorem D9:BS Tryz.prog 44:=Ao Tryz.func44 kR kR
theorem Hp:BS Tryz.prog 45:=Ao Tryz.func45 kR kR
theorem Y2:BS Tryz.prog 50:=Ao Tryz.func50 kR kR
theorem Md:BS Tryz.prog 52:=Ao Tryz.func52 kR kR
theorem kD:BS Tryz.prog 56:=Ao Tryz.func56 kR kR
theorem YF:BS Tryz.prog 57:=Ao Tryz.func57 kR kR
theorem YW:BS Tryz.prog 69:=Ao Tryz.func69 kR kR
theorem PY:BS Tryz.prog 70:=Ao Tryz.func70 kR kR
theorem Yc:BS Tryz.prog 72:=Ao Tryz.func72 kR kR
theorem XQ:BS Tryz.prog 78:=Ao Tryz.func78 kR kR
theorem kM:BS Tryz.prog 80:=Ao Tryz.func80 kR kR
theorem fN:BS Tryz.prog 81:=Ao Tryz.func81 kR kR
theorem XM:BS Tryz.prog 82:=Ao Tryz.func82 kR kR
theorem SK:BS Tryz.prog 83:=Ao Tryz.func83 kR kR
theorem IN:BS Tryz.prog 99:=Ao Tryz.func99 kR kR
theorem Q6:BS Tryz.prog 100:=Ao Tryz.func100 kR kR
theorem M8:BS Tryz.prog 107:=Ao Tryz.func107 kR kR
theorem bO:BS Tryz.prog 108:=Ao Tryz.func108 kR kR
theorem ZS:BS Tryz.prog 124:=Ao Tryz.func124 kR kR
theorem HI:FA Tryz.prog 56 0=some 0:=kR
theorem IJ:FA Tryz.prog 56 1=some 1:=kR
theorem PF:FA Tryz.prog 56 2=some 2:=kR
theorem F4:FA Tryz.prog 56 3=some 3:=kR
theorem Sr:FA Tryz.prog 130 0=some 0:=kR
theorem Xy:FA Tryz.prog 130 1=some 1:=kR
theorem Ru:FA Tryz.prog 130 2=some 2:=kR
theorem aW:fW Tryz.prog 21 9=true:=kR
theorem Oe:Gs Tryz.prog 111=some (3,4):=kR
theorem YM:Gs Tryz.prog 116=some (3,9):=kR
theorem SX:Gs Tryz.prog 128=some (3,56):=kR
theorem Ap:Tryz.prog.follows .mixedOrders=true:=kR
theorem RM:NB Tryz.prog 56=some [(0,1),(1,1),(2,1),(3,1)]:=kR
theorem kQ:NB Tryz.prog 130=some [(0,1),(1,1),(2,1)]:=kR
theorem DI:JV Tryz.prog 52=some (56,4):=kR
theorem KZ:JV Tryz.prog 90=some (3,1):=kR
theorem Yu:JV Tryz.prog 131=some (9,1):=kR
theorem CZ:Bb Tryz.prog 3=some (false,1):=kR
theorem Hx:Bb Tryz.prog 9=some (false,1):=kR
theorem H0:Bb Tryz.prog 52=some (false,1):=kR
theorem AJ:Bb Tryz.prog 56=some (true,4):=kR
theorem Kz:Bb Tryz.prog 90=some (false,1):=kR
theorem Ux:Bb Tryz.prog 128=some (false,1):=kR
theorem O1:Tryz.prog.underlying 3=some (.int .i64):=kR
theorem X8:Tryz.prog.underlying 59=some (.pointer 130):=kR
theorem aZ:zO Tryz.prog 4=some (.bool false):=kR
theorem qY:zO Tryz.prog 9=some (.string ⟨#[]⟩):=kR
theorem ND:zO Tryz.prog 56=some (.agg #[.int .i64 0,.int .i64 0,.string ⟨#[]⟩,.slice none 0 0]):=kR
theorem W1:HU Tryz.prog 3=some [.int .i64 0]:=kR
theorem sM:HU Tryz.prog 9=some [.string ⟨#[]⟩]:=kR
theorem DD:HU Tryz.prog 56=some [.int .i64 0,.int .i64 0,.string ⟨#[]⟩,.slice none 0 0]:=kR
theorem nG:HU Tryz.prog 90=some [.slice none 0 0]:=kR
theorem jU:HU Tryz.prog 130=some [.map none,.int .i64 0,.int .i64 0]:=kR
theorem ES:BS Tryz.prog 16:=Ao Tryz.func16 kR kR
theorem Gp:BS Tryz.prog 18:=Ao Tryz.func18 kR kR
theorem CX:BS Tryz.prog 19:=Ao Tryz.func19 kR kR
theorem IH:BS Tryz.prog 21:=Ao Tryz.func21 kR kR
theorem Th:BS Tryz.prog 22:=Ao Tryz.func22 kR kR
theorem FQ:BS Tryz.prog 25:=Ao Tryz.func25 kR kR
theorem PG:BS Tryz.prog 47:=Ao Tryz.func47 kR kR
theorem fM:BS Tryz.prog 48:=Ao Tryz.func48 kR kR
theorem jK:BS Tryz.prog 49:=Ao Tryz.func49 kR kR
theorem iN:BS Tryz.prog 51:=Ao Tryz.func51 kR kR
theorem Yt:BS Tryz.prog 53:=Ao Tryz.func53 kR kR
theorem hO:BS Tryz.prog 54:=Ao Tryz.func54 kR kR
theorem K0:BS Tryz.prog 55:=Ao Tryz.func55 kR kR
theorem PD:BS Tryz.prog 58:=Ao Tryz.func58 kR kR
theorem Zy:BS Tryz.prog 74:=Ao Tryz.func74 kR kR
theorem QG:BS Tryz.prog 77:=Ao Tryz.func77 kR kR
theorem iD:BS Tryz.prog 79:=Ao Tryz.func79 kR kR
theorem kN:BS Tryz.prog 97:=Ao Tryz.func97 kR kR
theorem PM:BS Tryz.prog 101:=Ao Tryz.func101 kR kR
theorem PE:BS Tryz.prog 102:=Ao Tryz.func102 kR kR
theorem ZR:BS Tryz.prog 120:=Ao Tryz.func120 kR kR
theorem IY:FA Tryz.prog 54 0=some 0:=kR
theorem GJ:FA Tryz.prog 54 1=some 1:=kR
theorem GH:FA Tryz.prog 54 2=some 3:=kR
theorem Ga:FA Tryz.prog 54 4=some 5:=kR
theorem JT:FA Tryz.prog 64 0=some 0:=kR
theorem PH:FA Tryz.prog 64 1=some 1:=kR
theorem Q5:FA Tryz.prog 92 0=some 0:=kR
theorem bY:FA Tryz.prog 92 1=some 1:=kR
theorem aS:FA Tryz.prog 92 2=some 5:=kR
theorem NN:FA Tryz.prog 100 0=some 0:=kR
theorem NF:FA Tryz.prog 100 1=some 4:=kR
theorem Ze:FA Tryz.prog 102 0=some 0:=kR
theorem RC:FA Tryz.prog 102 1=some 1:=kR
theorem S2:FA Tryz.prog 102 2=some 6:=kR
theorem Pe:Gs Tryz.prog 60=some (9,92):=kR
theorem lZ:lF Tryz.prog 47=true:=kR
theorem oG:NB Tryz.prog 47=some [(0,2),(2,1)]:=kR
theorem XW:NB Tryz.prog 100=some [(0,4),(4,1)]:=kR
theorem Yj:NB Tryz.prog 102=some [(0,1),(1,5),(6,1)]:=kR
theorem EI:JV Tryz.prog 23=some (54,6):=kR
theorem EM:Bb Tryz.prog 23=some (false,1):=kR
theorem CV:Bb Tryz.prog 25=some (true,2):=kR
theorem eA:Bb Tryz.prog 49=some (false,1):=kR
theorem Bc:Bb Tryz.prog 54=some (true,6):=kR
theorem HJ:Bb Tryz.prog 59=some (false,1):=kR
theorem O7:Bb Tryz.prog 60=some (false,1):=kR
theorem XH:Bb Tryz.prog 92=some (true,6):=kR
theorem kW:Bb Tryz.prog 100=some (true,5):=kR
theorem H7:Tryz.prog.underlying 9=some .string:=kR
theorem dV:Tryz.prog.underlying 49=some (.pointer 102):=kR
theorem UM:zO Tryz.prog 92=some (.agg #[.slice none 0 0,.int .i64 0,.int .i64 0,.string ⟨#[]⟩,.slice none 0 0,.slice none 0 0]):=kR
theorem cP:HU Tryz.prog 47=some [.int .i64 0,.int .i64 0,.int .i64 0]:=kR
theorem G5:HU Tryz.prog 54=some [.int .i64 0,.int .i64 0,.int .i64 0,.string ⟨#[]⟩,.int .i64 0,.slice none 0 0]:=kR
theorem XV:HU Tryz.prog 92=some [.slice none 0 0,.int .i64 0,.int .i64 0,.string ⟨#[]⟩,.slice none 0 0,.slice none 0 0]:=kR
theorem Xi:HU Tryz.prog 100=some [.int .i64 0,.int .i64 0,.string ⟨#[]⟩,.slice none 0 0,.slice none 0 0]:=kR
theorem X1:HU Tryz.prog 102=some [.string ⟨#[]⟩,.int .i64 0,.int .i64 0,.string ⟨#[]⟩,.slice none 0 0,.slice none 0 0,.pointer none]:=kR
theorem VB:Oq Tryz.prog 30=some (36,2,32,[.string ⟨#[]⟩,.string ⟨#[]⟩]):=kR
theorem Yh:Oq Tryz.prog 93=some (96,6,80,[.string ⟨#[]⟩,.int .i64 0,.int .i64 0,.int .i64 0,.string ⟨#[]⟩,.slice none 0 0]):=kR
theorem YZ:BS Tryz.prog 13:=Ao Tryz.func13 kR kR
theorem fX:BS Tryz.prog 14:=Ao Tryz.func14 kR kR
theorem fO:BS Tryz.prog 15:=Ao Tryz.func15 kR kR
theorem Nz:BS Tryz.prog 17:=Ao Tryz.func17 kR kR
theorem XB:BS Tryz.prog 23:=Ao Tryz.func23 kR kR
theorem iK:BS Tryz.prog 24:=Ao Tryz.func24 kR kR
theorem iQ:BS Tryz.prog 41:=Ao Tryz.func41 kR kR
theorem lD:BS Tryz.prog 42:=Ao Tryz.func42 kR kR
theorem fJ:BS Tryz.prog 43:=Ao Tryz.func43 kR kR
theorem PK:BS Tryz.prog 46:=Ao Tryz.func46 kR kR
theorem gW:BS Tryz.prog 66:=Ao Tryz.func66 kR kR
theorem gO:BS Tryz.prog 67:=Ao Tryz.func67 kR kR
theorem Qf:BS Tryz.prog 68:=Ao Tryz.func68 kR kR
theorem gA:BS Tryz.prog 73:=Ao Tryz.func73 kR kR
theorem X5:BS Tryz.prog 75:=Ao Tryz.func75 kR kR
theorem YB:BS Tryz.prog 76:=Ao Tryz.func76 kR kR
theorem UN:FA Tryz.prog 36 1=some 1:=kR
theorem aA:FA Tryz.prog 47 0=some 0:=kR
theorem aY:FA Tryz.prog 47 1=some 2:=kR
theorem V4:FA Tryz.prog 64 2=some 2:=kR
theorem cB:FA Tryz.prog 64 3=some 3:=kR
theorem V9:FA Tryz.prog 64 4=some 4:=kR
theorem cL:FA Tryz.prog 89 0=some 0:=kR
theorem ZN:FA Tryz.prog 89 1=some 1:=kR
theorem bK:FA Tryz.prog 89 3=some 3:=kR
theorem cA:FA Tryz.prog 96 0=some 0:=kR
theorem aN:FA Tryz.prog 96 2=some 2:=kR
theorem Qh:Zg Tryz.prog 20=true:=kR
theorem R2:Gs Tryz.prog 61=some (9,3):=kR
theorem UI:Gs Tryz.prog 62=some (9,4):=kR
theorem LN:Gs Tryz.prog 105=some (9,56):=kR
theorem Y8:NB Tryz.prog 25=some [(0,1),(1,1)]:=kR
theorem lX:NB Tryz.prog 36=some [(0,1),(1,1)]:=kR
theorem oS:NB Tryz.prog 64=some [(0,1),(1,1),(2,1),(3,1),(4,1)]:=kR
theorem oK:NB Tryz.prog 89=some [(0,1),(1,1),(2,1),(3,1)]:=kR
theorem dE:NB Tryz.prog 92=some [(0,1),(1,4),(5,1)]:=kR
theorem oJ:NB Tryz.prog 96=some [(0,1),(1,1),(2,4)]:=kR
theorem eQ:JV Tryz.prog 30=some (36,2):=kR
theorem eL:JV Tryz.prog 86=some (89,4):=kR
theorem dZ:JV Tryz.prog 93=some (96,6):=kR
theorem kG:nI Tryz.prog 47=true:=kR
theorem Hu:Bb Tryz.prog 26=some (false,1):=kR
theorem Vj:Bb Tryz.prog 30=some (false,1):=kR
theorem lU:Bb Tryz.prog 47=some (true,3):=kR
theorem Ry:Bb Tryz.prog 61=some (false,1):=kR
theorem eM:Bb Tryz.prog 62=some (false,1):=kR
theorem mE:Bb Tryz.prog 89=some (true,4):=kR
theorem MJ:Bb Tryz.prog 93=some (false,1):=kR
theorem nA:Bb Tryz.prog 96=some (true,6):=kR
theorem ZM:zO Tryz.prog 3=some (.int .i64 0):=kR
theorem V8:HU Tryz.prog 25=some [.int .i64 0,.int .i64 0]:=kR
theorem dY:HU Tryz.prog 26=some [.int .i64 0]:=kR
theorem nX:HU Tryz.prog 30=some [.slice none 0 0]:=kR
theorem mQ:HU Tryz.prog 36=some [.string ⟨#[]⟩,.string ⟨#[]⟩]:=kR
theorem mB:HU Tryz.prog 64=some [.pointer none,.map none,.map none,.map none,.int .i64 0]:=kR
theorem dT:HU Tryz.prog 89=some [.string ⟨#[]⟩,.string ⟨#[]⟩,.int .i64 0,.int .i64 0]:=kR
theorem nU:HU Tryz.prog 93=some [.slice none 0 0]:=kR
theorem eF:HU Tryz.prog 96=some [.string ⟨#[]⟩,.int .i64 0,.int .i64 0,.int .i64 0,.string ⟨#[]⟩,.slice none 0 0]:=kR
theorem Mi:Oq Tryz.prog 23=some (54,6,72,[.int .i64 0,.int .i64 0,.int .i64 0,.string ⟨#[]⟩,.int .i64 0,.slice none 0 0]):=kR
theorem dS:BS Tryz.prog 8:=Ao Tryz.func8 kR kR
theorem dA:BS Tryz.prog 9:=Ao Tryz.func9 kR kR
theorem Dv:BS Tryz.prog 10:=Ao Tryz.func10 kR kR
theorem fH:BS Tryz.prog 11:=Ao Tryz.func11 kR kR
theorem iY:BS Tryz.prog 12:=Ao Tryz.func12 kR kR
theorem AM:BS Tryz.prog 29:=Ao Tryz.func29 kR kR
theorem Hz:BS Tryz.prog 30:=Ao Tryz.func30 kR kR
theorem YA:BS Tryz.prog 31:=Ao Tryz.func31 kR kR
theorem To:BS Tryz.prog 32:=Ao Tryz.func32 kR kR
theorem XK:BS Tryz.prog 33:=Ao Tryz.func33 kR kR
theorem Bn:BS Tryz.prog 34:=Ao Tryz.func34 kR kR
theorem gK:BS Tryz.prog 35:=Ao Tryz.func35 kR kR
theorem NP:BS Tryz.prog 36:=Ao Tryz.func36 kR kR
theorem KI:BS Tryz.prog 37:=Ao Tryz.func37 kR kR
theorem D1:BS Tryz.prog 38:=Ao Tryz.func38 kR kR
theorem XY:BS Tryz.prog 39:=Ao Tryz.func39 kR kR
theorem UA:BS Tryz.prog 40:=Ao Tryz.func40 kR kR
theorem KC:BS Tryz.prog 63:=Ao Tryz.func63 kR kR
theorem Iy:BS Tryz.prog 64:=Ao Tryz.func64 kR kR
theorem kE:BS Tryz.prog 65:=Ao Tryz.func65 kR kR
theorem iL:BS Tryz.prog 91:=Ao Tryz.func91 kR kR
theorem Xo:BS Tryz.prog 92:=Ao Tryz.func92 kR kR
theorem Tw:BS Tryz.prog 93:=Ao Tryz.func93 kR kR
theorem Qm:BS Tryz.prog 94:=Ao Tryz.func94 kR kR
theorem QD:BS Tryz.prog 117:=Ao Tryz.func117 kR kR
theorem Qo:BS Tryz.prog 118:=Ao Tryz.func118 kR kR
theorem cF:FA Tryz.prog 41 0=some 0:=kR
theorem PJ:FA Tryz.prog 79 0=some 0:=kR
theorem UK:FA Tryz.prog 79 1=some 1:=kR
theorem V6:FA Tryz.prog 79 2=some 3:=kR
theorem IA:FA Tryz.prog 79 3=some 4:=kR
theorem I5:FA Tryz.prog 81 0=some 0:=kR
theorem IL:FA Tryz.prog 81 1=some 5:=kR
theorem dM:NB Tryz.prog 54=some [(0,1),(1,2),(3,1),(4,1),(5,1)]:=kR
theorem Gk:JV Tryz.prog 43=some (81,6):=kR
theorem gE:nI Tryz.prog 41=true:=kR
theorem lP:Bb Tryz.prog 41=some (true,2):=kR
theorem Oi:Bb Tryz.prog 43=some (false,1):=kR
theorem Lf:Bb Tryz.prog 81=some (true,6):=kR
theorem nD:HU Tryz.prog 23=some [.slice none 0 0]:=kR
theorem nN:HU Tryz.prog 41=some [.int .i64 0,.int .i64 0]:=kR
theorem O4:HU Tryz.prog 81=some [.int .i64 0,.int .i64 0,.int .i64 0,.int .i64 0,.string ⟨#[]⟩,.slice none 0 0]:=kR
end Go.Proofs.YthofplgbhecdcaaGreatDoor
namespace Go.SW
open Go.RowKit
section
variable{P:Program}{n:Nat}{Q:Bk}{ds:List Deferred}{X:Cx}{R:List RB}{B:List FB}{Fs:List (World→Fq→Prop)}{fs:List Fr}{σ:Bo}{H Hk:List HB}{l:List Oper}
theorem Dj{id:Nat}(ix:List Nat)(hm:P.follows .mixedOrders=true)(t:OT)(hk:Mg H ix=some Hk)(hok:(t.ok l.toArray true (Array.replicate l.length false)&&(t.even true l.length&&Region.noSelect l.toArray))=true) 
   (h:Dx P n (MT P n Q fs) ds X R B Fs l Hk B (fun _=>True) true t σ H) (hpi:PI Q:=by exact fun _ _ _ _ _ h=>h):AF P n Q ds X R B Fs (.code (.region id l.toArray true)) fs σ H:=by
 simp only[Bool.and_eq_true] at hok
 exact Ml (fun _=>True) (fun _ _ _ _=>trivial) ix hm t hk hok.1 hok.2.1 hok.2.2 hpi h
theorem Ax{B0:List FB}{k:OT}(ix:List Nat)(hk:Mg H ix=some Hk)(h:Dx P n Q ds X R B0 Fs l Hk B0 (fun _=>True) true k σ H):AF P n (Wi P n l Q (Kp Hk B0 (fun _=>True)) k) ds X R B0 Fs (.out .normal) [] σ H :=
 Bh ix (fun _ _ _ _=>trivial) hk (fun _ h=>h) h
theorem B4{k:M5}(φ:World→Fq→Prop)(h1:∀w f,AX X w f H R B Fs→φ w f)(hm:G0 φ)(h:AF P n Q ds X R B (φ::Fs) k fs σ H):AF P n Q ds X R B Fs k fs σ H:=fun w f hM =>
 h w f (hM.more (B':=[]) (F':=[φ]) (fun _ h=>by cases h) (A1.mem ⟨h1 w f hM,trivial⟩) (Af.mem ⟨hm,trivial⟩))
variable{all r:List Oper}{ty T:TypeId}{pos:String}{af:Array Edge}{g:Option (Nat×Bool)}{d:Nat}{op:Op}{fid:FuncId}{args:Array Value}
theorem Dy{c:Value}(hg:gd all σ g=some true)(hd:Nat.blt d n=true)(he:∀w,Enters P σ op ty w fid args)(hc:∀w f,AX X w f H R B Fs→BF P fid args w fun v w'=>v=c∧AV w w')
   (h:AF P n Q ds X R B Fs (.ops all r) fs (AL σ d c) H):AF P n Q ds X R B Fs (.ops all (⟨some d,op,ty,pos,af,g⟩::r)) fs σ H :=
 B8 (α:=Unit) (val:=fun _=>c) (q:=fun _=>True) (F':=fun _=>[]) hg hd he (fun w f hM=>(hc w f hM).mono fun _ _ ⟨h1,h2⟩=>⟨(),f,h1,trivial,CM.of_ext h2 hM.val,trivial⟩) (fun _=>trivial) (fun _ _=>h)
end
theorem oE{α:Type}{p:α→Prop}{a:α}(h:p a):∀e,e∈[a]→p e:=fun e he=>by
 cases he with
 |head=>exact h
 |tail _ h=>cases h
end Go.SW
namespace Go.Proofs.YthofplgbhecdcaaGreatDoor
open Go.SW Go.SP Go.RowKit
def uO:Ea:=⟨[],[(43,81,6),(23,54,6)],[],[],[(81,true,6)],[(81,[.int .i64 0,.int .i64 0,.int .i64 0,.int .i64 0,.string ⟨#[]⟩,.slice none 0 0]),(54,[.int .i64 0,.int .i64 0,.int .i64 0,.string ⟨#[]⟩,.int .i64 0,.slice none 0 0])],[],[]⟩
theorem PV:uO.Ok Tryz.prog:=⟨trivial,(And.intro Gk (And.intro EI trivial)),trivial,trivial,(And.intro Lf trivial),(And.intro O4 (And.intro G5 trivial)),trivial,trivial⟩
def D7(w:World)(f:Fq):Prop:=∀w' f',Jf w f w' f'→Gl w'
theorem D7.mono:G0 (fun w f=>D7 w f):=fun _ _ _ _ h hF w' f' hF'=>h w' f' (hF.trans hF')
theorem D7.gl{w:World}{f:Fq}(h:D7 w f):Gl w:=h w f (Jf.refl _ _)
theorem Hb(fid:Nat)(he:BS Tryz.prog fid)(m:AT→Fo→R N)(D:AT→Fo→Prop)(hm:∀ (w:World) (f:Fq) (_:Vl w f) (_:D7 w f) (t:AT) (k:Fo) (a:Option Addr) (c:Nat),D t k→Bu w f k a c→BQ Tryz.prog fid #[fV t a k.len c] w (Ig (m t k) w f) (IV 41 (m t k) w f))(w:World)(f:Fq)(hv:Vl w f)(hJ:D7 w f)(l:Fo)(la:Option Addr)(lc:Nat)(hD:l.all D)(hlen:l.len≤100000)(hL:Bu w f l la lc) :
  BQ Tryz.prog 10 #[.slice la l.len lc,.func (.func fid) #[] #[]] w (Ye (α:=Nd×List Value) 54 6 (fun x=>x.1.len) (fun x=>x.2) (fun x=>Bw m l=.ok x.1) (fun x=>[fun w f=>Ce w f x.1 x.2]) w f) (SD 41 (fun e=>Bw m l=.error e) w f):=by
 refine NT (X:=X0 w f) (H:=[]) (R:=[]) (B:=[]) (Fs:=[fun w f=>Bu w f l la lc,fun w f=>D7 w f]) (f:=f) Tryz.func10 rfl rfl rfl (C7 hv ⟨hL,hJ,trivial⟩ ⟨Bu.mono,D7.mono,trivial⟩)<|go PV 19 [] (fun _=>QJ 54 6 ?_)
 refine H9 (α:=Nat×Fo×Nd×List Value×Option Addr×Nat) (fun x=>x.2.1.len) (fun x=>x.1+x.2.1.len=l.len∧x.2.2.1.len=x.1∧(Bw m l=match Bw m x.2.1 with|.error e=>.error e|.ok b=>.ok (x.2.2.1.app b))∧x.2.1.all D) (fun x=>(E5 1 (.func (.func fid) #[] #[]) 5 (.slice x.2.2.2.2.1 x.1 x.2.2.2.2.2) 8 (.slice la l.len lc) 9 (.int .i64 (l.len:Int)) 10 (.int .i64 (x.1:Int)))) (fun x=>X0 w f) (fun x=>[]) (fun x=>[⟨54,6,x.2.2.2.2.1,x.2.2.2.2.2,x.1,x.2.2.2.1⟩]) (fun x=>[]) (fun x=>[fun w f=>A9 w f la x.1 x.2.1,fun w f=>Ce w f x.2.2.1 x.2.2.2.1,fun w f=>D7 w f]) (0,l,.nil,[],none,0) ⟨Nat.zero_add _,rfl,S4,hD⟩ lE (fun w f hM=>hM.more (B':=[]) (F':=[fun w f=>A9 w f la 0 l,fun w f=>Ce w f .nil []]) nE (A1.mem ⟨Bu.at hM.f0,rfl,trivial⟩) (Af.mem ⟨A9.mono,Ce.mono,trivial⟩) |>.less sR sR nE (mR [0,1,3])) ?_
 rintro⟨i,r,dn,xs,ra,rc⟩ ⟨hi,hdl,hea,hrd⟩
 dsimp only at hi hdl hea hrd ⊢
 refine go PV 6 [] (fun _=>AZ 11 rfl rfl (fun h1=>?_) (fun h1=>?_))
 refine go PV 6 [] (fun _=>?_)
 have hil:i<l.len:=by have:=of_decide_eq_true h1;omega
 obtain⟨t,k,r,rfl⟩:=Fo.cases1 r oM
 have hi2:i+(r.len+1)=l.len:=hi
 refine CB (α:=Nat×Nat×Option Addr×Nat) (fun x=>la=some ⟨x.1,x.2.1,none⟩) (fun x=>[⟨x.1,x.2.1+i*6,JJ t x.2.2.1 k.len x.2.2.2⟩]) (fun x=>[fun w f=>Bu w f k x.2.2.1 x.2.2.2,fun w f=>A9 w f la (i+1) r]) (fun w f hM=>let ⟨b,off,ka,kc,h1,h2,h3,h4⟩:=A9.head hM.f0;⟨(b,off,ka,kc),h1,(oE h2),A1.mem ⟨h3,h4,trivial⟩⟩) (fun x=>Af.mem ⟨Bu.mono,A9.mono,trivial⟩) ?_
 rintro⟨eb,eo,ka,kc⟩ rfl
 refine go PV 11 [100,0,0,0] (And.intro oM<|y2<|fun b1=>y<|y<|fun _=>?_)
 refine JY rfl rfl (eC he rfl rfl) (fun w f hM=>hm w f hM.vl hM.f4 t k ka kc hrd.1 hM.f0) (fun _=>⟨AK.mono,trivial⟩) (fun e w2 f2 he hE=>⟨rfl,e,f2,rfl,(by rw[hea];exact WB he),hE⟩) ?_
 rintro⟨nd,na,nc⟩ hnd
 dsimp only at hnd ⊢
 exact go PV 1 [] (fun b2=>fun _=>DH 0 0 rfl rfl Mi rfl rfl rfl rfl rfl rfl rfl rfl (fun _ _=>rfl) oM oM fun ra2 rc2=>go PV 8 [] (And.intro ⟨oM,oM⟩<|fun _=>Eb ((i+1,r,dn.app nd.one,xs++F9 nd.op nd.ln nd.co nd.tx nd.nm na nd.kids.len nc,ra2,rc2)) (show r.len<r.len+1 from Nat.lt_succ_self _) ⟨show i+1+r.len=_ by omega,show (dn.app nd.one).len=i+1 by rw[Nd.app_len,hdl];rfl,hea.trans (Tp hnd),hrd.2⟩ lE (fun w f hM=>⟨_,(hM.more (B':=[]) (F':=[fun w f=>Ce w f (dn.app nd.one) (xs++F9 nd.op nd.ln nd.co nd.tx nd.nm na nd.kids.len nc)]) nE (A1.mem ⟨Ce.app (Ce.one hM.f0) hM.f4,trivial⟩) (Af.mem ⟨Ce.mono,trivial⟩)).less (sD (sD sZ)) sR nE (mR [3,0,6])⟩)))
 refine go PV 3 [] (fun _=>Hc<|go PV 3 [] (fun _=>?_))
 obtain rfl:r=.nil:=Fo.len0 (by have:=of_decide_eq_false h1;omega)
 subst hdl
 exact go PV 6 [] (fun _=>AY (Dz rfl rfl) (fun w f hM=>⟨(dn,xs),ra,rc,f,rfl,(by rw[hea];show (Except.ok (dn.app .nil):R Nd)=_;rw[Nd.app_nil]),hM.exm,hM.row _ (.head _),(fun b hb=>⟨hM.rnw _ (.head _) b hb,(hM.own b (List.mem_append.2 (.inr (List.mem_filterMap.2 ⟨_,.head _,hb⟩)))).1⟩),⟨hM.f1,trivial⟩⟩))
def vC:Ea:=⟨[(81,0,0),(79,3,4)],[(43,81,6)],[],[],[(81,true,6),(54,true,6),(9,false,1)],[(81,[.int .i64 0,.int .i64 0,.int .i64 0,.int .i64 0,.string ⟨#[]⟩,.slice none 0 0]),(54,[.int .i64 0,.int .i64 0,.int .i64 0,.string ⟨#[]⟩,.int .i64 0,.slice none 0 0])],[],[]⟩
theorem Jl:vC.Ok Tryz.prog:=⟨(And.intro I5 (And.intro IA trivial)),(And.intro Gk trivial),trivial,trivial,(And.intro Lf (And.intro Bc (And.intro Hx trivial))),(And.intro O4 (And.intro G5 trivial)),trivial,trivial⟩
theorem Ba{n:Nat}{Q:Bk}{ds:List Deferred}{X:Cx}{R:List RB}{B:List FB}{Fs:List (World→Fq→Prop)}{fs:List Fr}{σ:Bo}{H:List HB}{all r:List Oper}{ty:TypeId}{pos:String}{af:Array Edge}{g:Option (Nat×Bool)}{d:Nat}{op:Op}{t:AT}{kv:Value}{b:Bool}
  (hg:gd all σ g=some true) (hd:Nat.blt d n=true) (he:∀w,SW.Enters Tryz.prog σ op ty w 29 #[.agg #[.int .i64 t.k,.int .i64 t.ln,.int .i64 t.co,.int .i64 t.nm,S t.tx,kv],.bool b]) (hp:∀w' f',b=false→CM X.M X.w0 X.f0 w' f'→Q.p (QI 41 (t.ln,t.co)) σ ds w')
  (h:b=true→AF Tryz.prog n Q ds X R B Fs (.ops all r) fs (AL σ d (.tuple #[])) H):AF Tryz.prog n Q ds X R B Fs (.ops all (⟨some d,op,ty,pos,af,g⟩::r)) fs σ H :=
 JY (α:=Unit) (val:=fun _=>.tuple #[]) (q:=fun _=>b=true) (F':=fun _=>[]) (pe:=fun e=>b=false∧e=(t.ln,t.co)) (T:=41) hg hd he (fun w f hM=>(U5 w t _ _).mono (fun _ w2 ⟨h1,h2,h3⟩=>⟨(),f,h2,h1,CM.of_ext h3 hM.vl,trivial⟩) fun _ w2 ⟨h1,h2,h3⟩=>⟨_,f,h2,⟨h1,rfl⟩,CM.of_ext h3 hM.vl⟩) (fun _=>trivial) (fun e w2 f2 ⟨he,he2⟩ hE=>by subst he2;exact hp w2 f2 he hE) (fun _ h1=>h h1)
theorem BX(fid:Nat)(he:BS Tryz.prog fid)(m:AT→Fo→R N)(D:AT→Fo→Prop)(hm:∀ (w:World) (f:Fq) (_:Vl w f) (_:D7 w f) (t:AT) (k:Fo) (a:Option Addr) (c:Nat),D t k→Bu w f k a c→BQ Tryz.prog fid #[fV t a k.len c] w (Ig (m t k) w f) (IV 41 (m t k) w f))(w:World)(f:Fq)(hv:Vl w f)(hJ:D7 w f)(l:Fo)(la:Option Addr)(lc:Nat)(hD:l.all D)(hlen:l.len≤100000)(hL:Bu w f l la lc) :
  BQ Tryz.prog 10 #[.slice la l.len lc,.func (.func fid) #[] #[]] w (BV (α:=(Nd×List Value)×Option Addr×Nat) (fun y=>.slice y.2.1 y.1.1.len y.2.2) (fun y=>Bw m l=.ok y.1.1) (fun y=>[fun w f=>AK w f y.1.1 y.2.1 y.2.2]) w f) (SD 41 (fun e=>Bw m l=.error e) w f) :=
 (Hb fid he m D hm w f hv hJ l la lc hD hlen hL).mono (fun _ _ h=>Ye.fro hv h) fun _ _ h=>h
theorem QX(w:World)(f:Fq)(hv:Vl w f)(hJ:D7 w f)(l:Fo)(la:Option Addr)(lc:Nat)(hD:l.all (fun t _=>t.ok))(hlen:l.len≤100000)(hL:Bu w f l la lc) :
  BF Tryz.prog 91 #[.slice la l.len lc] w (BV (α:=Unit) (fun _=>.bool (Nu l)) (fun _=>True) (fun _=>[]) w f):=by
 refine Dg (X:=X0 w f) (H:=[]) (R:=[]) (B:=[]) (Fs:=[fun w f=>Bu w f l la lc,fun w f=>D7 w f]) (f:=f) Tryz.func91 rfl rfl rfl (C7 hv ⟨hL,hJ,trivial⟩ ⟨Bu.mono,D7.mono,trivial⟩)<|go Jl 14 [] (fun _=>?_)
 refine H9 (α:=Nat×Fo) (fun x=>x.2.len) (fun x=>x.1+x.2.len=l.len∧Nu l=Nu x.2∧x.2.all (fun t _=>t.ok)) (fun x=>(E3 5 (.slice la l.len lc) 6 (.int .i64 (l.len:Int)) 7 (.int .i64 (x.1:Int)))) (fun x=>X0 w f) (fun x=>[]) (fun x=>[]) (fun x=>[]) (fun x=>[fun w f=>A9 w f la x.1 x.2,fun w f=>D7 w f]) (0,l) ⟨Nat.zero_add _,rfl,hD⟩ lE (fun w f hM=>hM.more (B':=[]) (F':=[fun w f=>A9 w f la 0 l]) nE (A1.mem ⟨Bu.at hM.f0,trivial⟩) (Af.mem ⟨A9.mono,trivial⟩) |>.less sR sR nE (mR [0,2])) ?_
 rintro⟨i,r⟩ ⟨hi,hea,hrd⟩
 dsimp only at hi hea hrd ⊢
 refine go Jl 6 [] (fun _=>AZ 8 rfl rfl (fun h1=>?_) (fun h1=>?_))
 refine go Jl 6 [] (fun _=>?_)
 have hil:i<l.len:=by have:=of_decide_eq_true h1;omega
 obtain⟨t,k,r,rfl⟩:=Fo.cases1 r oM
 have hi2:i+(r.len+1)=l.len:=hi
 refine CB (α:=Nat×Nat×Option Addr×Nat) (fun x=>la=some ⟨x.1,x.2.1,none⟩) (fun x=>[⟨x.1,x.2.1+i*6,JJ t x.2.2.1 k.len x.2.2.2⟩]) (fun x=>[fun w f=>Bu w f k x.2.2.1 x.2.2.2,fun w f=>A9 w f la (i+1) r]) (fun w f hM=>let ⟨b,off,ka,kc,h1,h2,h3,h4⟩:=A9.head hM.f0;⟨(b,off,ka,kc),h1,(oE h2),A1.mem ⟨h3,h4,trivial⟩⟩) (fun x=>Af.mem ⟨Bu.mono,A9.mono,trivial⟩) ?_
 rintro⟨eb,eo,ka,kc⟩ rfl
 refine go Jl 10 [100,0,0,0] (And.intro oM<|y2<|fun b1=>y<|y<|fun _=>Dy rfl rfl (eC Tw rfl rfl) (fun w f hM=>Jq _ (D7.gl hM.f3) t _ hrd.1.1 hrd.1.2)<|go Jl 3 [] (fun _=>AZ 13 rfl rfl (fun h2=>?_) (fun h2=>?_)))
 replace h2:=FL h2
 exact go Jl 9 [] (fun _=>cU<|go Jl 2 [] (fun _=>AY (Dz rfl rfl) (fun w f hM=>⟨(),f,(by rw[hea];show _=Value.bool (t.isHole&&Nu r);rw[h2];rfl),trivial,hM.exm,trivial⟩)))
 replace h2:=Gn h2
 exact go Jl 8 [] (And.intro ⟨oM,oM⟩<|fun _=>Eb ((i+1,r)) (show r.len<r.len+1 from Nat.lt_succ_self _) ⟨show i+1+r.len=_ by omega,hea.trans (by show (t.isHole&&Nu r)=_;rw[h2];rfl),hrd.2⟩ lE (fun w f hM=>⟨_,hM.less (sD sZ) sR nE (mR [1,3])⟩))
 refine go Jl 3 [] (fun _=>Hc<|go Jl 3 [] (fun _=>?_))
 obtain rfl:r=.nil:=Fo.len0 (by have:=of_decide_eq_false h1;omega)
 exact go Jl 5 [] (fun _=>AY (Dz rfl rfl) (fun w f hM=>⟨(),f,(by rw[hea];rfl),trivial,hM.exm,trivial⟩))
theorem Od(w:World)(f:Fq)(hv:Vl w f)(hJ:D7 w f)(t:AT)(k:Fo)(ka:Option Addr)(kc:Nat) :
  BF Tryz.prog 92 #[fV t ka k.len kc] w (Ig (Kx t k) w f):=by
 refine Dg (X:=X0 w f) (H:=[]) (R:=[]) (B:=[]) (Fs:=[fun w f=>D7 w f]) (f:=f) Tryz.func92 rfl rfl rfl (C7 hv ⟨hJ,trivial⟩ ⟨D7.mono,trivial⟩)<|go Jl 10 [1] (fun b1=>fun b2=>y<|fun _=>Dy rfl rfl (eC KC rfl rfl) (fun w f hM=>DC _ t _ _)<|go Jl 2 [] (fun _=>AZ 4 rfl rfl (fun h1=>?_) (fun h1=>?_)))
 exact go Jl 4 [1] (y<|fun _=>Dy rfl rfl (eC Bn rfl rfl) (fun w f hM=>AE _ t _ _ _ _ _ _)<|go Jl 5 [0] (y<|fun _=>AY (fun w f hM=>AI rfl (Ac rfl Bc hM.k0 rfl)) (fun w f hM=>⟨(⟨21,t.ln,t.co,[],0,.nil⟩,none,0),f,rfl,(by simp[Kx,A3,h1]),hM.exm,⟨⟨Nat.zero_le _,.inl rfl⟩,trivial⟩⟩)))
 exact go Jl 9 [1,1] (y<|y<|fun _=>Dy rfl rfl (eC Bn rfl rfl) (fun w f hM=>AE _ t _ _ _ _ _ _)<|go Jl 4 [0] (y<|fun _=>AY (fun w f hM=>AI rfl (Ac rfl Bc hM.k0 rfl)) (fun w f hM=>⟨(⟨22,t.ln,t.co,t.tx,0,.nil⟩,none,0),f,rfl,(by simp[Kx,A3,h1]),hM.exm,⟨⟨Nat.zero_le _,.inl rfl⟩,trivial⟩⟩)))
def uA:Ea:=⟨[(81,0,0),(79,0,0),(79,1,1),(79,2,3),(79,3,4),(81,1,5)],[(43,81,6)],[],[],[(3,false,1),(25,true,2),(54,true,6),(81,true,6),(9,false,1),(43,false,1)],[(54,[.int .i64 0,.int .i64 0,.int .i64 0,.string ⟨#[]⟩,.int .i64 0,.slice none 0 0]),(81,[.int .i64 0,.int .i64 0,.int .i64 0,.int .i64 0,.string ⟨#[]⟩,.slice none 0 0])],[(54,[(0,1),(1,2),(3,1),(4,1),(5,1)])],[]⟩
theorem C1:uA.Ok Tryz.prog:=⟨(And.intro I5 (And.intro PJ (And.intro UK (And.intro V6 (And.intro IA (And.intro IL trivial)))))),(And.intro Gk trivial),trivial,trivial,(And.intro CZ (And.intro CV (And.intro Bc (And.intro Lf (And.intro Hx (And.intro Oi trivial)))))),(And.intro G5 (And.intro O4 trivial)),(And.intro dM trivial),trivial⟩
theorem Rw(n:Nat)(ih:∀n',n=n'+1→∀ (w:World) (f:Fq) (_:Vl w f) (_:D7 w f) (t:AT) (k:Fo) (a:Option Addr) (c:Nat),GN n' t k→Bu w f k a c→BQ Tryz.prog 117 #[fV t a k.len c] w (Ig (EU (n'+1) t k) w f) (IV 41 (EU (n'+1) t k) w f))(w:World)(f:Fq)(hv:Vl w f)(hJ:D7 w f)(t:AT)(k:Fo)(ka:Option Addr)(kc:Nat)(hp:GN n t k)(hL:Bu w f k ka kc) :
  BQ Tryz.prog 117 #[fV t ka k.len kc] w (Ig (EU (n+1) t k) w f) (IV 41 (EU (n+1) t k) w f):=by
 refine NT (X:=X0 w f) (H:=[]) (R:=[]) (B:=[]) (Fs:=[fun w f=>Bu w f k ka kc,fun w f=>D7 w f]) (f:=f) Tryz.func117 rfl rfl rfl (C7 hv ⟨hL,hJ,trivial⟩ ⟨Bu.mono,D7.mono,trivial⟩)<|go C1 21 [1] (fun b1=>fun b2=>y<|fun _=>AZ 8 rfl rfl (fun h1=>?_) (fun h1=>?_))
 exact go C1 16 [1,1,0] (y<|y<|y<|fun _=>AY (fun w f hM=>AI rfl (Ac rfl Bc hM.k0 rfl)) (fun w f hM=>⟨(⟨23,t.ln,t.co,[],t.nm,.nil⟩,none,0),f,rfl,(by unfold EU;simp[SP.need,A3,h1]),hM.exm,⟨⟨Nat.zero_le _,.inl rfl⟩,trivial⟩⟩))
 refine go C1 7 [] (fun _=>AZ 17 rfl rfl (fun h2=>?_) (fun h2=>?_))
 exact go C1 7 [1,1] (y<|y<|fun _=>Dy rfl rfl (eC Bn rfl rfl) (fun w f hM=>AE _ t _ _ _ _ _ _)<|go C1 6 [0] (y<|fun _=>AY (fun w f hM=>AI rfl (Ac rfl Bc hM.k0 rfl)) (fun w f hM=>⟨(⟨24,t.ln,t.co,t.tx,0,.nil⟩,none,0),f,rfl,(by unfold EU;simp[SP.need,A3,h1,h2]),hM.exm,⟨⟨Nat.zero_le _,.inl rfl⟩,trivial⟩⟩)))
 refine go C1 7 [] (fun _=>AZ 24 rfl rfl (fun h3=>?_) (fun h3=>?_))
 exact go C1 7 [1,1] (y<|y<|fun _=>Dy rfl rfl (eC Bn rfl rfl) (fun w f hM=>AE _ t _ _ _ _ _ _)<|go C1 6 [0] (y<|fun _=>AY (fun w f hM=>AI rfl (Ac rfl Bc hM.k0 rfl)) (fun w f hM=>⟨(⟨26,t.ln,t.co,t.tx,0,.nil⟩,none,0),f,rfl,(by unfold EU;simp[SP.need,A3,h1,h2,h3]),hM.exm,⟨⟨Nat.zero_le _,.inl rfl⟩,trivial⟩⟩)))
 refine go C1 7 [] (fun _=>AZ 31 rfl rfl (fun h4=>?_) (fun h4=>?_))
 refine go C1 2 [] (fun _=>Dj [0,1] Ap (.rd 0 (.rd 1 (.br 2 (.br 3 .fin .fin) .fin))) rfl kR<|AA C1 2 [1,1] (y<|y<|fun _=>Ag rfl ?_ Ai))
 refine Dy rfl rfl (eC Tw rfl rfl) (fun w f hM=>Jq _ (D7.gl hM.f1) t _ hp.1.1 hp.1.2)<|go C1 1 [] (fun _=>Ax [0,1] rfl<|Ag rfl ?_ Ai)
 refine Ba rfl rfl (eC AM rfl rfl) (fun w2 f2 he hE=>⟨rfl,_,f2,rfl,(by unfold EU;simp[SP.need,A3,he,h1,h2,h3,h4]),hE⟩) fun hn1=>go C1 1 [] (fun _=>Ax [0,1] rfl<|B3<|go C1 4 [1] (y<|fun _=>B8 rfl rfl (eC Xo rfl rfl) (fun w f hM=>Od w f hM.vl hM.f1 t _ _ _) (fun _=>⟨AK.mono,trivial⟩) ?_))
 rintro⟨nd1,and1,cnd1⟩ hnd1
 dsimp only at hnd1 ⊢
 exact go C1 6 [0] (y<|fun _=>AY (fun w f hM=>AI rfl (Ac rfl Bc hM.k0 rfl)) (fun w f hM=>⟨(nd1,and1,cnd1),f,rfl,(by unfold EU;simp[SP.need,A3,h1,h2,h3,h4,hn1,hnd1]),hM.exm,⟨hM.f0,trivial⟩⟩))
 refine go C1 7 [] (fun _=>AZ 39 rfl rfl (fun h5=>?_) (fun h5=>?_))
 exact go C1 3 [1] (y<|fun _=>fG rfl rfl (eC UA rfl rfl) (pe:=fun e=>e=(t.ln,t.co)) (T:=41) (fun w f hM=>(IX w t _).mono (fun _ _ h=>h.elim) fun _ w2 ⟨h1,h2⟩=>⟨_,f,h1,rfl,CM.of_ext h2 hM.vl⟩) (fun e w2 f2 he hE=>by subst he;exact⟨rfl,_,f2,rfl,(by unfold EU;simp[SP.need,A3,h1,h2,h3,h4,h5]),hE⟩))
 refine go C1 13 [1] (y<|fun _=>AZ 46 rfl rfl (fun h6=>?_) (fun h6=>?_))
 refine go C1 2 [] (fun _=>?_)
 obtain rfl:k=.nil:=Fo.len0 (by have h9:((k.len:Int)==0)=true:=h6;have:=beq_iff_eq.1 h9;omega)
 exact go C1 2 [1] (y<|fun _=>Dy rfl rfl (eC Bn rfl rfl) (fun w f hM=>AE _ t _ _ _ _ _ _)<|go C1 5 [0] (y<|fun _=>AY (fun w f hM=>AI rfl (Ac rfl Bc hM.k0 rfl)) (fun w f hM=>⟨(⟨25,t.ln,t.co,[],0,.nil⟩,none,0),f,rfl,(by unfold EU;simp[SP.need,A3,h1,h2,h3,h4,h5,h6]),hM.exm,⟨⟨Nat.zero_le _,.inl rfl⟩,trivial⟩⟩)))
 refine go C1 4 [] (fun _=>?_)
 obtain⟨h,hk,r,rfl⟩:=Fo.cases1 k (by have h9:((k.len:Int)==0)=false:=h6;have:=beq_eq_false_iff_ne.1 h9;omega)
 obtain⟨hto,hko,hkl,hdp⟩:=hp
 have hkl2:r.len+1≤100000:=hkl
 obtain⟨n,rfl⟩:∃q,n=q+1:=by cases n with|zero=>exact absurd hdp (by simp[Fo.deep])|succ q=>exact⟨q,rfl⟩
 simp only[Fo.deep,Bool.and_eq_true] at hdp
 refine B4 (fun w f=>Bu w f r (D4 ka kc 6) (kc-1)) (fun w f hM=>A9.rest hM.f0) Bu.mono<|B4 (fun w f=>A9 w f ka 0 (.cons h hk r)) (fun w f hM=>Bu.at hM.f1) A9.mono<|CB (α:=Nat×Nat×Option Addr×Nat) (fun x=>ka=some ⟨x.1,x.2.1,none⟩) (fun x=>[⟨x.1,x.2.1+0*6,JJ h x.2.2.1 hk.len x.2.2.2⟩]) (fun x=>[fun w f=>Bu w f hk x.2.2.1 x.2.2.2,fun w f=>A9 w f ka 1 r]) (fun w f hM=>let ⟨b,off,ka,kc,h1,h2,h3,h4⟩:=A9.head hM.f0;⟨(b,off,ka,kc),h1,(oE h2),A1.mem ⟨h3,h4,trivial⟩⟩) (fun x=>Af.mem ⟨Bu.mono,A9.mono,trivial⟩) ?_
 rintro⟨eb,eo,hka,hkc⟩ rfl
 refine Dj [0,1] Ap (rd [0,1,2,3,4,5,6] (.br 7 (.br 8 (.rd 9 .fin) .fin) .fin)) rfl kR<|AA C1 6 [1,100,0,1] (y<|And.intro (by simp only[Fo.len];omega)<|y2<|y<|fun _=>HN rfl rfl rfl (fun w hK=>Hg rfl rfl rfl Gk)<|Ag rfl ?_ Ai)
 refine go C1 2 [] (fun b3=>fun _=>Ax [1,2] rfl<|Ag rfl ?_ Ai)
 refine go C1 2 [0] (y<|fun _=>Ax [1,2] rfl<|AA C1 1 [] (fun _=>B3<|go C1 10 [0] (y<|fun _=>AZ 59 rfl rfl (fun h7=>?_) (fun h7=>?_))))
 refine go C1 2 [] (fun _=>Dj [0,1,2] Ap (rd [0,1,2] (.br 3 (.br 4 .fin .fin) .fin)) rfl kR<|AA C1 3 [2] (y<|fun _=>Ag rfl ?_ Ai))
 refine Dy rfl rfl (eC Iy rfl rfl) (fun w f hM=>Dp _ _ _ _)<|go C1 1 [] (fun _=>Ax [0,1,2] rfl<|Ag rfl ?_ Ai)
 refine Ba rfl rfl (eC AM rfl rfl) (fun w2 f2 he hE=>⟨rfl,_,f2,rfl,(by unfold EU;simp[SP.need,A3,he,h1,h2,h3,h4,h5,h6,h7]),hE⟩) fun hn2=>go C1 1 [] (fun _=>Ax [0,1,2] rfl<|B3<|go C1 2 [] (fun _=>Dj [0,2] Ap (rd [0,1,2,3,4] (.br 5 (.br 6 (.br 7 .fin .fin) .fin) .fin)) rfl kR<|AA C1 5 [1,0] (y<|y<|fun _=>Ag rfl ?_ Ai)))
 refine JY rfl rfl (eC Dv rfl rfl) (fun w f hM=>BX 117 QD (EU (n+1)) (GN n) (fun w f hv hJ t k a c hd hT=>ih n rfl w f hv hJ t k a c hd hT) w f hM.vl hM.f5 r _ _ (Nv n r hko.2.2.2 hdp.2) oM hM.f3) (fun _=>⟨AK.mono,trivial⟩) (fun e w2 f2 he hE=>⟨rfl,e,f2,rfl,(by unfold EU;simp[SP.need,A3,he,h1,h2,h3,h4,h5,h6,h7,hn2]),hE⟩) ?_
 rintro⟨⟨nds1,xnds1⟩,ands1,cnds1⟩ hnds1
 dsimp only at hnds1 ⊢
 refine go C1 1 [] (fun _=>Ax [0,2] rfl<|Ag rfl ?_ Ai)
 refine Dy rfl rfl (eC Bn rfl rfl) (fun w f hM=>AE _ t _ _ _ _ _ _)<|go C1 1 [] (fun _=>Ax [0,2] rfl<|Ag rfl ?_ Ai)
 exact go C1 2 [1] (y<|fun _=>Ax [0,2] rfl<|B3<|go C1 3 [] (fun _=>AY (fun w f hM=>AI rfl (Ac rfl Bc hM.k1 rfl)) (fun w f hM=>⟨(⟨26,t.ln,t.co,h.tx,0,nds1⟩,ands1,cnds1),f,rfl,(by unfold EU;simp[SP.need,A3,h1,h2,h3,h4,h5,h6,h7,hn2,hnds1]),hM.exm,⟨hM.f0,trivial⟩⟩)))
 refine go C1 4 [] (fun _=>Dj [0,1,2] Ap (.rd 0 (.rd 1 (.br 2 (rd [3,4,5] (.br 6 (.rd 7 (.br 8 .fin .fin)) .fin)) .fin))) rfl kR<|AA C1 2 [2,0] (y<|y<|fun _=>Ag rfl ?_ Ai))
 refine Dy rfl rfl (eC KC rfl rfl) (fun w f hM=>DC _ h _ _)<|go C1 1 [] (fun _=>Ax [0,1,2] rfl<|AA C1 1 [] (fun _=>Kk 75 rfl (fun h8=>?_) (fun h8=>?_)))
 refine AA C1 2 [] (fun _=>Ag rfl ?_ Ai)
 refine Dy rfl rfl (eC Iy rfl rfl) (fun w f hM=>Dp _ _ _ _)<|go C1 1 [] (fun _=>Ax [0,1,2] rfl<|AA C1 1 [] (fun _=>Ag rfl ?_ Ai))
 refine Ba rfl rfl (eC AM rfl rfl) (fun w2 f2 he hE=>⟨rfl,_,f2,rfl,(by unfold EU;simp[SP.need,A3,he,h1,h2,h3,h4,h5,h6,h7,h8]),hE⟩) fun hn3=>go C1 1 [] (fun _=>Ax [0,1,2] rfl<|B3<|go C1 2 [] (fun _=>Dj [0,2] Ap (.rd 0 (.rd 1 (.br 2 (.br 3 (.br 4 .fin .fin) .fin) .fin))) rfl kR<|AA C1 2 [1] (y<|fun _=>Ag rfl ?_ Ai)))
 refine JY rfl rfl (eC Dv rfl rfl) (fun w f hM=>BX 117 QD (EU (n+1)) (GN n) (fun w f hv hJ t k a c hd hT=>ih n rfl w f hv hJ t k a c hd hT) w f hM.vl hM.f5 r _ _ (Nv n r hko.2.2.2 hdp.2) oM hM.f3) (fun _=>⟨AK.mono,trivial⟩) (fun e w2 f2 he hE=>⟨rfl,e,f2,rfl,(by unfold EU;simp[SP.need,A3,he,h1,h2,h3,h4,h5,h6,h7,h8,hn3]),hE⟩) ?_
 rintro⟨⟨nds2,xnds2⟩,ands2,cnds2⟩ hnds2
 dsimp only at hnds2 ⊢
 refine go C1 1 [] (fun _=>Ax [0,2] rfl<|Ag rfl ?_ Ai)
 refine Dy rfl rfl (eC Bn rfl rfl) (fun w f hM=>AE _ t _ _ _ _ _ _)<|go C1 1 [] (fun _=>Ax [0,2] rfl<|Ag rfl ?_ Ai)
 exact go C1 2 [1] (y<|fun _=>Ax [0,2] rfl<|B3<|go C1 2 [] (fun _=>AY (fun w f hM=>AI rfl (Ac rfl Bc hM.k1 rfl)) (fun w f hM=>⟨(⟨27,t.ln,t.co,[],0,nds2⟩,ands2,cnds2),f,rfl,(by unfold EU;simp[SP.need,A3,h1,h2,h3,h4,h5,h6,h7,h8,hn3,hnds2]),hM.exm,⟨hM.f0,trivial⟩⟩)))
 refine AA C1 2 [] (fun _=>Ag rfl ?_ Ai)
 refine go C1 2 [] (fun _=>Ax [0,1,2] rfl<|AA C1 1 [] (fun _=>Ag rfl ?_ Ai))
 refine Ba rfl rfl (eC AM rfl rfl) (fun w2 f2 he hE=>⟨rfl,_,f2,rfl,(by unfold EU;simp[SP.need,A3,he,h1,h2,h3,h4,h5,h6,h7,h8]),hE⟩) fun hn4=>?_
 cases hn4
theorem O5:∀n,∀(w:World)(f:Fq)(_:Vl w f)(_:D7 w f)(t:AT)(k:Fo)(a:Option Addr)(c:Nat),GN n t k→Bu w f k a c→BQ Tryz.prog 117 #[fV t a k.len c] w (Ig (EU (n+1) t k) w f) (IV 41 (EU (n+1) t k) w f)
 |0=>Rw 0 (fun _ hq=>by cases hq)
 |n+1=>Rw (n+1) (fun n' h=>by cases h;exact O5 n)
def uX:Ea:=⟨[(81,1,5),(81,0,0),(79,3,4)],[(43,81,6),(23,54,6)],[],[],[(81,true,6),(43,false,1),(54,true,6),(9,false,1)],[(54,[.int .i64 0,.int .i64 0,.int .i64 0,.string ⟨#[]⟩,.int .i64 0,.slice none 0 0])],[],[]⟩
theorem A5:uX.Ok Tryz.prog:=⟨(And.intro IL (And.intro I5 (And.intro IA trivial))),(And.intro Gk (And.intro EI trivial)),trivial,trivial,(And.intro Lf (And.intro Oi (And.intro Bc (And.intro Hx trivial)))),(And.intro G5 trivial),trivial,trivial⟩
theorem NC(w:World)(f:Fq)(hv:Vl w f)(t:AT)(k:Fo)(ka:Option Addr)(kc:Nat)(hL:Bu w f k ka kc) :
  BF Tryz.prog 39 #[fV t ka k.len kc] w (BV (α:=Unit) (fun _=>.bool (TF t k)) (fun _=>True) (fun _=>[]) w f):=by
 refine Dg (X:=X0 w f) (H:=[]) (R:=[]) (B:=[]) (Fs:=[fun w f=>Bu w f k ka kc]) (f:=f) Tryz.func39 rfl rfl rfl (C7 hv ⟨hL,trivial⟩ ⟨Bu.mono,trivial⟩)<|go A5 7 [] (fun b1=>fun _=>?_)
 cases k with
 |nil =>
  refine go A5 2 [0] (y<|fun _=>Dy rfl rfl (eC Hz rfl rfl) (fun w f hM=>C3 _ t _)<|go A5 1 [] (fun _=>AZ 5 rfl rfl (fun h1=>?_) (fun h1=>?_)))
  refine go A5 6 [0] (y<|fun _=>AZ 11 rfl rfl (fun h2=>?_) (fun h2=>?_))
  simp[Fo.len] at h2
  exact go A5 10 [] (fun _=>AY (Dz rfl rfl) (fun w f hM=>⟨(),f,(by simp[TF,h1]),trivial,hM.exm,trivial⟩))
  exact go A5 16 [] (fun _=>AY (Dz rfl rfl) (fun w f hM=>⟨(),f,(by simp[TF,h1]),trivial,hM.exm,trivial⟩))
 |cons h hk r =>
  refine B4 (fun w f=>A9 w f ka 0 (.cons h hk r)) (fun w f hM=>Bu.at hM.f0) A9.mono<|CB (α:=Nat×Nat×Option Addr×Nat) (fun x=>ka=some ⟨x.1,x.2.1,none⟩) (fun x=>[⟨x.1,x.2.1+0*6,JJ h x.2.2.1 hk.len x.2.2.2⟩]) (fun x=>[fun w f=>Bu w f hk x.2.2.1 x.2.2.2,fun w f=>A9 w f ka 1 r]) (fun w f hM=>let ⟨b,off,ka,kc,h1,h2,h3,h4⟩:=A9.head hM.f0;⟨(b,off,ka,kc),h1,(oE h2),A1.mem ⟨h3,h4,trivial⟩⟩) (fun x=>Af.mem ⟨Bu.mono,A9.mono,trivial⟩) ?_
  rintro⟨eb,eo,hka,hkc⟩ rfl
  refine go A5 2 [0] (y<|fun _=>Dy rfl rfl (eC Hz rfl rfl) (fun w f hM=>C3 _ t _)<|go A5 1 [] (fun _=>AZ 5 rfl rfl (fun h3=>?_) (fun h3=>?_)))
  refine go A5 6 [0] (y<|fun _=>AZ 11 rfl rfl (fun h4=>?_) (fun h4=>?_))
  exact go A5 4 [0,100,0] (y<|And.intro (by simp only[Fo.len];omega)<|y2<|fun _=>Dy rfl rfl (eC KC rfl rfl) (fun w f hM=>DC _ h _ _)<|go A5 5 [] (fun _=>AY (Dz rfl rfl) (fun w f hM=>⟨(),f,(by simp[TF,h3]),trivial,hM.exm,trivial⟩)))
  have h9:=of_decide_eq_false h4;simp only[Fo.len] at h9;omega
  exact go A5 16 [] (fun _=>AY (Dz rfl rfl) (fun w f hM=>⟨(),f,(by simp[TF,h3]),trivial,hM.exm,trivial⟩))
set_option maxHeartbeats 1000000 in
theorem VX(n:Nat)(ihx:∀ (w:World) (f:Fq) (_:Vl w f) (_:D7 w f) (t:AT) (k:Fo) (a:Option Addr) (c:Nat),GN n t k→Bu w f k a c→BQ Tryz.prog 38 #[fV t a k.len c] w (Ig (Cr (n+1) t k) w f) (IV 41 (Cr (n+1) t k) w f))(iha:∀ (w:World) (f:Fq) (_:Vl w f) (_:D7 w f) (t:AT) (k:Fo) (a:Option Addr) (c:Nat),GN n t k→Bu w f k a c→BQ Tryz.prog 94 #[fV t a k.len c] w (Ig (H6 (n+1) (Cr (n+1)) t k) w f) (IV 41 (H6 (n+1) (Cr (n+1)) t k) w f))(w:World)(f:Fq)(hv:Vl w f)(hJ:D7 w f)(t:AT)(k:Fo)(ka:Option Addr)(kc:Nat)(wd:List UInt8)(l:Fo)(la:Option Addr)(lc:Nat)(hall:l.all (GN n))(hlen:l.len≤100000)(hL:Bu w f l la lc) :
  BQ Tryz.prog 65 #[fV t ka k.len kc,S wd,.slice la l.len lc] w (Ig (Bq (n+1) (Cr (n+1)) t wd l) w f) (IV 41 (Bq (n+1) (Cr (n+1)) t wd l) w f):=by
 refine NT (X:=X0 w f) (H:=[]) (R:=[]) (B:=[]) (Fs:=[fun w f=>Bu w f l la lc,fun w f=>D7 w f]) (f:=f) Tryz.func65 rfl rfl rfl (C7 hv ⟨hL,hJ,trivial⟩ ⟨Bu.mono,D7.mono,trivial⟩)<|go A5 26 [] (fun b1=>fun b2=>fun _=>AZ 13 rfl rfl (fun h1=>?_) (fun h1=>?_))
 obtain rfl:=beq_iff_eq.1 h1
 refine go A5 2 [] (fun _=>?_)
 rcases Fo.two l with ⟨p,pk,b,bk,rfl⟩|hne
 refine B4 (fun w f=>A9 w f la 0 (.cons p pk (.cons b bk .nil))) (fun w f hM=>Bu.at hM.f0) A9.mono<|CB (α:=Nat×Nat×Option Addr×Nat) (fun x=>la=some ⟨x.1,x.2.1,none⟩) (fun x=>[⟨x.1,x.2.1+0*6,JJ p x.2.2.1 pk.len x.2.2.2⟩]) (fun x=>[fun w f=>Bu w f pk x.2.2.1 x.2.2.2,fun w f=>A9 w f la 1 (.cons b bk .nil)]) (fun w f hM=>let ⟨b,off,ka,kc,h1,h2,h3,h4⟩:=A9.head hM.f0;⟨(b,off,ka,kc),h1,(oE h2),A1.mem ⟨h3,h4,trivial⟩⟩) (fun x=>Af.mem ⟨Bu.mono,A9.mono,trivial⟩) ?_
 rintro⟨eb0,eo0,k0a,k0c⟩ rfl
 refine CB (α:=Nat×Nat×Option Addr×Nat) (fun x=>(some (⟨eb0,eo0,none⟩:Addr))=some ⟨x.1,x.2.1,none⟩) (fun x=>[⟨x.1,x.2.1+1*6,JJ b x.2.2.1 bk.len x.2.2.2⟩]) (fun x=>[fun w f=>Bu w f bk x.2.2.1 x.2.2.2,fun w f=>A9 w f (some (⟨eb0,eo0,none⟩:Addr)) 2 .nil]) (fun w f hM=>let ⟨b,off,ka,kc,h1,h2,h3,h4⟩:=A9.head hM.f1;⟨(b,off,ka,kc),h1,(oE h2),A1.mem ⟨h3,h4,trivial⟩⟩) (fun x=>Af.mem ⟨Bu.mono,A9.mono,trivial⟩) ?_
 rintro⟨eb1,eo1,k1a,k1c⟩ h44
 obtain⟨rfl,rfl⟩:eb0=eb1∧eo0=eo1:=by cases h44;exact⟨rfl,rfl⟩
 refine Dj [0,1] Ap (rd [0,1,2,3,4,5,6] (.br 7 (rd [8,9,10,11,12,13,14] (.br 15 (rd [16,17,18,19,20,21] (.br 22 (.rd 23 (.br 24 .fin .fin)) .fin)) .fin)) .fin)) rfl kR<|AA A5 4 [1] (y<|fun _=>Kk 18 rfl (fun h2=>?_) (fun h2=>?_))
 refine AA A5 3 [101,0] (And.intro (by simp only[Fo.len];omega)<|y2<|fun _=>Ag rfl ?_ Ai)
 refine Dy rfl rfl (eC Hz rfl rfl) (fun w f hM=>C3 _ p _)<|go A5 1 [] (fun _=>Ax [0,1] rfl<|AA A5 2 [] (fun _=>Kk 24 rfl (fun h3=>?_) (fun h3=>?_)))
 refine AA A5 5 [101,5] (And.intro (by simp only[Fo.len];omega)<|y2<|fun _=>Ag rfl ?_ Ai)
 refine Dy rfl rfl (eC Iy rfl rfl) (fun w f hM=>Dp _ _ _ _)<|go A5 1 [] (fun _=>Ax [0,1] rfl<|AA A5 2 [] (fun _=>Kk 32 rfl (fun h4=>?_) (fun h4=>?_)))
 refine AA A5 4 [101,5] (And.intro (by simp only[Fo.len];omega)<|y2<|fun _=>Ag rfl ?_ Ai)
 refine B8 rfl rfl (eC iL rfl rfl) (fun w f hM=>QX w f hM.vl hM.f6 pk _ _ (Fo.ok.all hall.1.2.1) hall.1.2.2.1 hM.f2) (fun _=>trivial) ?_
 rintro⟨⟩ -
 refine go A5 1 [] (fun _=>Ax [0,1] rfl<|AA A5 1 [] (fun _=>Ag rfl ?_ Ai))
 refine Ba rfl rfl (eC AM rfl rfl) (fun w2 f2 he hE=>⟨rfl,_,f2,rfl,(by simp[Bq,SP.need,A3,he,h2,h3,h4]),hE⟩) fun hn1=>go A5 1 [] (fun _=>Ax [0,1] rfl<|B3<|go A5 2 [] (fun _=>Dj [1] Ap (rd [0,1,2,3,4,6,7,8] (.br 5 (.br 9 (.br 10 (.br 11 (.br 12 (.br 13 .fin .fin) .fin) .fin) .fin) .fin) .fin)) rfl kR<|AA A5 8 [0,101,5,100,0] (y<|And.intro (by simp only[Fo.len];omega)<|y2<|And.intro (by simp only[Fo.len];omega)<|y2<|fun _=>Ag rfl ?_ Ai)))
 refine WO rfl rfl (eC Dv rfl rfl) (fun w f hM=>Hb 92 Xo Kx (fun _ _=>True) (fun w f hv hJ t k a c hd hT=>(Od w f hv hJ t k a c).retP) w f hM.vl hM.f6 pk _ _ (Fo.all_true _) hall.1.2.2.1 hM.f2) (fun _=>⟨Ce.mono,trivial⟩) (fun e w2 f2 he hE=>⟨rfl,e,f2,rfl,(by simp[Bq,SP.need,A3,he,h2,h3,h4,hn1]),hE⟩) ?_
 rintro⟨nds1,xnds1⟩ ands1 cnds1 hnds1
 dsimp only at hnds1 ⊢
 have hnl:=Ek hnds1
 have hpl:=hall.1.2.2.1
 refine go A5 1 [] (fun _=>Ax [1] rfl<|Ag rfl ?_ Ai)
 refine JY rfl rfl (eC D1 rfl rfl) (fun w f hM=>ihx w f hM.vl hM.f7 b bk _ _ hall.2.1 hM.f1) (fun _=>⟨AK.mono,trivial⟩) (fun e w2 f2 he hE=>⟨rfl,e,f2,rfl,(by simp[Bq,SP.need,A3,he,h2,h3,h4,hn1,hnds1]),hE⟩) ?_
 rintro⟨nd1,and1,cnd1⟩ hnd1
 dsimp only at hnd1 ⊢
 refine go A5 1 [] (fun _=>Ax [1] rfl<|Ag rfl ?_ Ai)
 refine go A5 2 [] (fun b3=>fun _=>Ax [2] rfl<|Ag rfl ?_ Ai)
 refine DH 0 0 rfl rfl Mi rfl rfl rfl rfl rfl rfl rfl rfl (fun _ _=>rfl) oM oM fun ands2 cnds2=>B4 (fun w f=>Ce w f (nds1.app nd1.one) (xnds1++F9 nd1.op nd1.ln nd1.co nd1.tx nd1.nm and1 nd1.kids.len cnd1)) (fun w f hM=>Ce.app (Ce.one hM.f0) hM.f1) Ce.mono<|QH (fun w f=>AK w f (nds1.app nd1.one) ands2 cnds2) AK.mono (fun w f hM=>KD hM hM.f0)<|go A5 1 [] (fun _=>Ax [2] rfl<|Ag rfl ?_ Ai)
 refine Dy rfl rfl (eC Bn rfl rfl) (fun w f hM=>AE _ t _ _ _ _ _ _)<|go A5 1 [] (fun _=>Ax [2] rfl<|Ag rfl ?_ Ai)
 exact go A5 2 [1] (y<|fun _=>Ax [2] rfl<|B3<|go A5 4 [] (fun _=>AY (fun w f hM=>AI rfl (Ac rfl Bc hM.k1 rfl)) (fun w f hM=>⟨(⟨7,t.ln,t.co,[],0,(nds1.app nd1.one)⟩,ands2,cnds2),f,(by simp[nV,Nd.app_len,N.one,N.cons,Nd.len,Nat.add_comm]),(by simp[Bq,SP.need,A3,h2,h3,h4,hn1,hnds1,hnd1]),hM.exm,⟨hM.f0,trivial⟩⟩)))
 refine AA A5 4 [] (fun _=>Ag rfl ?_ Ai)
 refine go A5 2 [] (fun _=>Ax [0,1] rfl<|AA A5 1 [] (fun _=>Ag rfl ?_ Ai))
 refine Ba rfl rfl (eC AM rfl rfl) (fun w2 f2 he hE=>⟨rfl,_,f2,rfl,(by simp[Bq,SP.need,A3,he,h2,h3,h4]),hE⟩) fun hn2=>?_
 cases hn2
 refine AA A5 5 [] (fun _=>Ag rfl ?_ Ai)
 refine go A5 2 [] (fun _=>Ax [0,1] rfl<|AA A5 6 [] (fun _=>Ag rfl ?_ Ai))
 refine go A5 2 [] (fun _=>Ax [0,1] rfl<|AA A5 1 [] (fun _=>Ag rfl ?_ Ai))
 refine Ba rfl rfl (eC AM rfl rfl) (fun w2 f2 he hE=>⟨rfl,_,f2,rfl,(by simp[Bq,SP.need,A3,he,h2,h3]),hE⟩) fun hn3=>?_
 cases hn3
 simp[Fo.len] at h2
 refine Dj [0,1] Ap (rd [0,1,2,3,4,5,6] (.br 7 (rd [8,9,10,11,12,13,14] (.br 15 (rd [16,17,18,19,20,21] (.br 22 (.rd 23 (.br 24 .fin .fin)) .fin)) .fin)) .fin)) rfl kR<|AA A5 4 [1] (y<|fun _=>Kk 18 rfl (fun h5=>?_) (fun h5=>?_))
 exact absurd (by have h9:=beq_iff_eq.1 h5;omega) hne
 refine AA A5 3 [] (fun _=>Ag rfl ?_ Ai)
 refine go A5 2 [] (fun _=>Ax [0,1] rfl<|AA A5 7 [] (fun _=>Ag rfl ?_ Ai))
 refine go A5 2 [] (fun _=>Ax [0,1] rfl<|AA A5 6 [] (fun _=>Ag rfl ?_ Ai))
 refine go A5 2 [] (fun _=>Ax [0,1] rfl<|AA A5 1 [] (fun _=>Ag rfl ?_ Ai))
 refine Ba rfl rfl (eC AM rfl rfl) (fun w2 f2 he hE=>⟨rfl,_,f2,rfl,(by rw[oX hne]),hE⟩) fun hn4=>?_
 cases hn4
 refine go A5 7 [] (fun _=>AZ 53 rfl rfl (fun h6=>?_) (fun h6=>?_))
 obtain rfl:=beq_iff_eq.1 h6
 refine go A5 2 [] (fun _=>?_)
 rcases Fo.three l with ⟨p,pk,b,bk,c,ck,rfl⟩|hne
 refine B4 (fun w f=>A9 w f la 0 (.cons p pk (.cons b bk (.cons c ck .nil)))) (fun w f hM=>Bu.at hM.f0) A9.mono<|CB (α:=Nat×Nat×Option Addr×Nat) (fun x=>la=some ⟨x.1,x.2.1,none⟩) (fun x=>[⟨x.1,x.2.1+0*6,JJ p x.2.2.1 pk.len x.2.2.2⟩]) (fun x=>[fun w f=>Bu w f pk x.2.2.1 x.2.2.2,fun w f=>A9 w f la 1 (.cons b bk (.cons c ck .nil))]) (fun w f hM=>let ⟨b,off,ka,kc,h1,h2,h3,h4⟩:=A9.head hM.f0;⟨(b,off,ka,kc),h1,(oE h2),A1.mem ⟨h3,h4,trivial⟩⟩) (fun x=>Af.mem ⟨Bu.mono,A9.mono,trivial⟩) ?_
 rintro⟨eb0,eo0,k0a,k0c⟩ rfl
 refine CB (α:=Nat×Nat×Option Addr×Nat) (fun x=>(some (⟨eb0,eo0,none⟩:Addr))=some ⟨x.1,x.2.1,none⟩) (fun x=>[⟨x.1,x.2.1+1*6,JJ b x.2.2.1 bk.len x.2.2.2⟩]) (fun x=>[fun w f=>Bu w f bk x.2.2.1 x.2.2.2,fun w f=>A9 w f (some (⟨eb0,eo0,none⟩:Addr)) 2 (.cons c ck .nil)]) (fun w f hM=>let ⟨b,off,ka,kc,h1,h2,h3,h4⟩:=A9.head hM.f1;⟨(b,off,ka,kc),h1,(oE h2),A1.mem ⟨h3,h4,trivial⟩⟩) (fun x=>Af.mem ⟨Bu.mono,A9.mono,trivial⟩) ?_
 rintro⟨eb1,eo1,k1a,k1c⟩ h44
 obtain⟨rfl,rfl⟩:eb0=eb1∧eo0=eo1:=by cases h44;exact⟨rfl,rfl⟩
 refine CB (α:=Nat×Nat×Option Addr×Nat) (fun x=>(some (⟨eb0,eo0,none⟩:Addr))=some ⟨x.1,x.2.1,none⟩) (fun x=>[⟨x.1,x.2.1+2*6,JJ c x.2.2.1 ck.len x.2.2.2⟩]) (fun x=>[fun w f=>Bu w f ck x.2.2.1 x.2.2.2,fun w f=>A9 w f (some (⟨eb0,eo0,none⟩:Addr)) 3 .nil]) (fun w f hM=>let ⟨b,off,ka,kc,h1,h2,h3,h4⟩:=A9.head hM.f1;⟨(b,off,ka,kc),h1,(oE h2),A1.mem ⟨h3,h4,trivial⟩⟩) (fun x=>Af.mem ⟨Bu.mono,A9.mono,trivial⟩) ?_
 rintro⟨eb2,eo2,k2a,k2c⟩ h44
 obtain⟨rfl,rfl⟩:eb0=eb2∧eo0=eo2:=by cases h44;exact⟨rfl,rfl⟩
 refine Dj [0,1] Ap (rd [0,1,2,3,4,5,6] (.br 7 (.rd 8 (.br 9 .fin .fin)) .fin)) rfl kR<|AA A5 4 [1] (y<|fun _=>Kk 58 rfl (fun h7=>?_) (fun h7=>?_))
 refine AA A5 3 [102,0] (And.intro (by simp only[Fo.len];omega)<|y2<|fun _=>Ag rfl ?_ Ai)
 refine Dy rfl rfl (eC Tw rfl rfl) (fun w f hM=>Jq _ (D7.gl hM.f8) p _ hall.1.1.1 hall.1.1.2)<|go A5 1 [] (fun _=>Ax [0,1] rfl<|AA A5 1 [] (fun _=>Ag rfl ?_ Ai))
 refine Ba rfl rfl (eC AM rfl rfl) (fun w2 f2 he hE=>⟨rfl,_,f2,rfl,(by simp[Bq,SP.need,A3,he,h1,h7]),hE⟩) fun hn5=>go A5 1 [] (fun _=>Ax [0,1] rfl<|B3<|go A5 2 [] (fun _=>Dj [1] Ap (rd [0,1,2,3,4,5,6,7,8,10,11,12] (.br 9 (.br 13 (.br 14 (.br 15 (.br 16 .fin .fin) .fin) .fin) .fin) .fin)) rfl kR<|AA A5 12 [0,102,4,101,0,100,0] (y<|And.intro (by simp only[Fo.len];omega)<|y2<|And.intro (by simp only[Fo.len];omega)<|y2<|And.intro (by simp only[Fo.len];omega)<|y2<|fun _=>Ag rfl ?_ Ai)))
 refine JY rfl rfl (eC D1 rfl rfl) (fun w f hM=>ihx w f hM.vl hM.f8 b bk _ _ hall.2.1 hM.f2) (fun _=>⟨AK.mono,trivial⟩) (fun e w2 f2 he hE=>⟨rfl,e,f2,rfl,(by simp[Bq,SP.need,A3,he,h1,h7,hn5]),hE⟩) ?_
 rintro⟨nd2,and2,cnd2⟩ hnd2
 dsimp only at hnd2 ⊢
 refine go A5 1 [] (fun _=>Ax [1] rfl<|Ag rfl ?_ Ai)
 refine JY rfl rfl (eC D1 rfl rfl) (fun w f hM=>ihx w f hM.vl hM.f9 c ck _ _ hall.2.2.1 hM.f1) (fun _=>⟨AK.mono,trivial⟩) (fun e w2 f2 he hE=>⟨rfl,e,f2,rfl,(by simp[Bq,SP.need,A3,he,h1,h7,hn5,hnd2]),hE⟩) ?_
 rintro⟨nd3,and3,cnd3⟩ hnd3
 dsimp only at hnd3 ⊢
 refine go A5 1 [] (fun _=>Ax [1] rfl<|Ag rfl ?_ Ai)
 refine go A5 2 [] (fun b4=>fun _=>Ax [2] rfl<|Ag rfl ?_ Ai)
 refine Dl 0 rfl rfl<|B4 (fun w f=>AK w f (nd2.cons (nd3.one)) (some ⟨b4,0,none⟩) 2) (fun w f hM=>Ce.toF (Ce.cons' hM.f1 (Ce.cons' hM.f0 (show Ce _ _ .nil [] from rfl))) hM.b0 (Nat.le_refl _)) AK.mono<|Dy rfl rfl (eC Bn rfl rfl) (fun w f hM=>AE _ t _ _ _ _ _ _)<|go A5 1 [] (fun _=>Bh [1] Fu rfl (fun _ h=>.tail _ h)<|Ag rfl ?_ Ai)
 exact go A5 2 [0] (y<|fun _=>Bh [1] Fu rfl (fun _ h=>.tail _ h)<|B3<|go A5 4 [] (fun _=>AY (fun w f hM=>AI rfl (Ac rfl Bc hM.k0 rfl)) (fun w f hM=>⟨(⟨9,t.ln,t.co,p.tx,0,(nd2.cons (nd3.one))⟩,(some ⟨b4,0,none⟩),2),f,rfl,(by simp[Bq,SP.need,A3,h1,h7,hn5,hnd2,hnd3]),hM.exm,⟨hM.f0,trivial⟩⟩)))
 simp[Fo.len] at h7
 refine Dj [0,1] Ap (rd [0,1,2,3,4,5,6] (.br 7 (.rd 8 (.br 9 .fin .fin)) .fin)) rfl kR<|AA A5 4 [1] (y<|fun _=>Kk 58 rfl (fun h8=>?_) (fun h8=>?_))
 exact absurd (by have h9:=beq_iff_eq.1 h8;omega) hne
 refine AA A5 3 [] (fun _=>Ag rfl ?_ Ai)
 refine go A5 2 [] (fun _=>Ax [0,1] rfl<|AA A5 1 [] (fun _=>Ag rfl ?_ Ai))
 refine Ba rfl rfl (eC AM rfl rfl) (fun w2 f2 he hE=>⟨rfl,_,f2,rfl,(by rw[iG hne]),hE⟩) fun hn6=>?_
 cases hn6
 refine go A5 7 [] (fun _=>AZ 81 rfl rfl (fun h9=>?_) (fun h9=>?_))
 obtain rfl:=beq_iff_eq.1 h9
 refine go A5 2 [] (fun _=>?_)
 rcases Fo.three l with ⟨p,pk,b,bk,c,ck,rfl⟩|hne
 refine B4 (fun w f=>A9 w f la 0 (.cons p pk (.cons b bk (.cons c ck .nil)))) (fun w f hM=>Bu.at hM.f0) A9.mono<|CB (α:=Nat×Nat×Option Addr×Nat) (fun x=>la=some ⟨x.1,x.2.1,none⟩) (fun x=>[⟨x.1,x.2.1+0*6,JJ p x.2.2.1 pk.len x.2.2.2⟩]) (fun x=>[fun w f=>Bu w f pk x.2.2.1 x.2.2.2,fun w f=>A9 w f la 1 (.cons b bk (.cons c ck .nil))]) (fun w f hM=>let ⟨b,off,ka,kc,h1,h2,h3,h4⟩:=A9.head hM.f0;⟨(b,off,ka,kc),h1,(oE h2),A1.mem ⟨h3,h4,trivial⟩⟩) (fun x=>Af.mem ⟨Bu.mono,A9.mono,trivial⟩) ?_
 rintro⟨eb0,eo0,k0a,k0c⟩ rfl
 refine CB (α:=Nat×Nat×Option Addr×Nat) (fun x=>(some (⟨eb0,eo0,none⟩:Addr))=some ⟨x.1,x.2.1,none⟩) (fun x=>[⟨x.1,x.2.1+1*6,JJ b x.2.2.1 bk.len x.2.2.2⟩]) (fun x=>[fun w f=>Bu w f bk x.2.2.1 x.2.2.2,fun w f=>A9 w f (some (⟨eb0,eo0,none⟩:Addr)) 2 (.cons c ck .nil)]) (fun w f hM=>let ⟨b,off,ka,kc,h1,h2,h3,h4⟩:=A9.head hM.f1;⟨(b,off,ka,kc),h1,(oE h2),A1.mem ⟨h3,h4,trivial⟩⟩) (fun x=>Af.mem ⟨Bu.mono,A9.mono,trivial⟩) ?_
 rintro⟨eb1,eo1,k1a,k1c⟩ h44
 obtain⟨rfl,rfl⟩:eb0=eb1∧eo0=eo1:=by cases h44;exact⟨rfl,rfl⟩
 refine CB (α:=Nat×Nat×Option Addr×Nat) (fun x=>(some (⟨eb0,eo0,none⟩:Addr))=some ⟨x.1,x.2.1,none⟩) (fun x=>[⟨x.1,x.2.1+2*6,JJ c x.2.2.1 ck.len x.2.2.2⟩]) (fun x=>[fun w f=>Bu w f ck x.2.2.1 x.2.2.2,fun w f=>A9 w f (some (⟨eb0,eo0,none⟩:Addr)) 3 .nil]) (fun w f hM=>let ⟨b,off,ka,kc,h1,h2,h3,h4⟩:=A9.head hM.f1;⟨(b,off,ka,kc),h1,(oE h2),A1.mem ⟨h3,h4,trivial⟩⟩) (fun x=>Af.mem ⟨Bu.mono,A9.mono,trivial⟩) ?_
 rintro⟨eb2,eo2,k2a,k2c⟩ h44
 obtain⟨rfl,rfl⟩:eb0=eb2∧eo0=eo2:=by cases h44;exact⟨rfl,rfl⟩
 refine Dj [0,1] Ap (rd [0,1,2,3,4,5,6] (.br 7 (rd [8,9,10,11,12] (.br 13 (.rd 14 (.br 15 .fin .fin)) .fin)) .fin)) rfl kR<|AA A5 4 [1] (y<|fun _=>Kk 86 rfl (fun h10=>?_) (fun h10=>?_))
 refine AA A5 3 [102,0] (And.intro (by simp only[Fo.len];omega)<|y2<|fun _=>Ag rfl ?_ Ai)
 refine Dy rfl rfl (eC NP rfl rfl) (fun w f hM=>Fa _ (D7.gl hM.f8) p _ hall.1.1.1 hall.1.1.2)<|go A5 1 [] (fun _=>Ax [0,1] rfl<|AA A5 2 [] (fun _=>Kk 92 rfl (fun h11=>?_) (fun h11=>?_)))
 refine AA A5 3 [101,0] (And.intro (by simp only[Fo.len];omega)<|y2<|fun _=>Ag rfl ?_ Ai)
 refine B8 rfl rfl (eC XY rfl rfl) (fun w f hM=>NC w f hM.vl b bk _ _ hM.f2) (fun _=>trivial) ?_
 rintro⟨⟩ -
 refine go A5 1 [] (fun _=>Ax [0,1] rfl<|AA A5 1 [] (fun _=>Ag rfl ?_ Ai))
 refine Ba rfl rfl (eC AM rfl rfl) (fun w2 f2 he hE=>⟨rfl,_,f2,rfl,(by simp[Bq,SP.need,A3,he,h1,h6,h10,h11]),hE⟩) fun hn7=>go A5 1 [] (fun _=>Ax [0,1] rfl<|B3<|go A5 2 [] (fun _=>Dj [1] Ap (rd [0,1,2,3,4,5,6,7,8,10,11,12] (.br 9 (.br 13 (.br 14 (.br 15 (.br 16 .fin .fin) .fin) .fin) .fin) .fin)) rfl kR<|AA A5 12 [0,102,4,101,0,100,0] (y<|And.intro (by simp only[Fo.len];omega)<|y2<|And.intro (by simp only[Fo.len];omega)<|y2<|And.intro (by simp only[Fo.len];omega)<|y2<|fun _=>Ag rfl ?_ Ai)))
 refine JY rfl rfl (eC D1 rfl rfl) (fun w f hM=>ihx w f hM.vl hM.f8 b bk _ _ hall.2.1 hM.f2) (fun _=>⟨AK.mono,trivial⟩) (fun e w2 f2 he hE=>⟨rfl,e,f2,rfl,(by simp[Bq,SP.need,A3,he,h1,h6,h10,h11,hn7]),hE⟩) ?_
 rintro⟨nd4,and4,cnd4⟩ hnd4
 dsimp only at hnd4 ⊢
 refine go A5 1 [] (fun _=>Ax [1] rfl<|Ag rfl ?_ Ai)
 refine JY rfl rfl (eC D1 rfl rfl) (fun w f hM=>ihx w f hM.vl hM.f9 c ck _ _ hall.2.2.1 hM.f1) (fun _=>⟨AK.mono,trivial⟩) (fun e w2 f2 he hE=>⟨rfl,e,f2,rfl,(by simp[Bq,SP.need,A3,he,h1,h6,h10,h11,hn7,hnd4]),hE⟩) ?_
 rintro⟨nd5,and5,cnd5⟩ hnd5
 dsimp only at hnd5 ⊢
 refine go A5 1 [] (fun _=>Ax [1] rfl<|Ag rfl ?_ Ai)
 refine go A5 2 [] (fun b5=>fun _=>Ax [2] rfl<|Ag rfl ?_ Ai)
 refine Dl 0 rfl rfl<|B4 (fun w f=>AK w f (nd4.cons (nd5.one)) (some ⟨b5,0,none⟩) 2) (fun w f hM=>Ce.toF (Ce.cons' hM.f1 (Ce.cons' hM.f0 (show Ce _ _ .nil [] from rfl))) hM.b0 (Nat.le_refl _)) AK.mono<|Dy rfl rfl (eC Bn rfl rfl) (fun w f hM=>AE _ t _ _ _ _ _ _)<|go A5 1 [] (fun _=>Bh [1] Fu rfl (fun _ h=>.tail _ h)<|Ag rfl ?_ Ai)
 exact go A5 2 [0] (y<|fun _=>Bh [1] Fu rfl (fun _ h=>.tail _ h)<|B3<|go A5 4 [] (fun _=>AY (fun w f hM=>AI rfl (Ac rfl Bc hM.k0 rfl)) (fun w f hM=>⟨(⟨10,t.ln,t.co,p.tx,0,(nd4.cons (nd5.one))⟩,(some ⟨b5,0,none⟩),2),f,rfl,(by simp[Bq,SP.need,A3,h1,h6,h10,h11,hn7,hnd4,hnd5]),hM.exm,⟨hM.f0,trivial⟩⟩)))
 refine AA A5 3 [] (fun _=>Ag rfl ?_ Ai)
 refine go A5 2 [] (fun _=>Ax [0,1] rfl<|AA A5 1 [] (fun _=>Ag rfl ?_ Ai))
 refine Ba rfl rfl (eC AM rfl rfl) (fun w2 f2 he hE=>⟨rfl,_,f2,rfl,(by simp[Bq,SP.need,A3,he,h1,h6,h10,h11]),hE⟩) fun hn8=>?_
 cases hn8
 simp[Fo.len] at h10
 refine Dj [0,1] Ap (rd [0,1,2,3,4,5,6] (.br 7 (rd [8,9,10,11,12] (.br 13 (.rd 14 (.br 15 .fin .fin)) .fin)) .fin)) rfl kR<|AA A5 4 [1] (y<|fun _=>Kk 86 rfl (fun h12=>?_) (fun h12=>?_))
 exact absurd (by have h9:=beq_iff_eq.1 h12;omega) hne
 refine AA A5 3 [] (fun _=>Ag rfl ?_ Ai)
 refine go A5 2 [] (fun _=>Ax [0,1] rfl<|AA A5 5 [] (fun _=>Ag rfl ?_ Ai))
 refine go A5 2 [] (fun _=>Ax [0,1] rfl<|AA A5 1 [] (fun _=>Ag rfl ?_ Ai))
 refine Ba rfl rfl (eC AM rfl rfl) (fun w2 f2 he hE=>⟨rfl,_,f2,rfl,(by rw[iW hne]),hE⟩) fun hn9=>?_
 cases hn9
 refine go A5 7 [] (fun _=>AZ 115 rfl rfl (fun h13=>?_) (fun h13=>?_))
 obtain rfl:=beq_iff_eq.1 h13
 refine go A5 6 [1] (y<|fun _=>Ba rfl rfl (eC AM rfl rfl) (fun w2 f2 he hE=>⟨rfl,_,f2,rfl,(by simp[Bq,SP.need,A3,he,h1,h6,h9]),hE⟩) fun hn10=>go A5 3 [] (fun _=>Dj [1] Ap (.rd 0 (.rd 1 (.br 2 (.br 3 (.br 4 .fin .fin) .fin) .fin))) rfl kR<|AA A5 2 [0] (y<|fun _=>Ag rfl ?_ Ai)))
 refine JY rfl rfl (eC Dv rfl rfl) (fun w f hM=>BX 38 D1 (Cr (n+1)) (GN n) (fun w f hv hJ t k a c hd hT=>ihx w f hv hJ t k a c hd hT) w f hM.vl hM.f1 l _ _ hall hlen hM.f0) (fun _=>⟨AK.mono,trivial⟩) (fun e w2 f2 he hE=>⟨rfl,e,f2,rfl,(by simp[Bq,SP.need,A3,he,h1,h6,h9,hn10]),hE⟩) ?_
 rintro⟨⟨nds5,xnds5⟩,ands5,cnds5⟩ hnds5
 dsimp only at hnds5 ⊢
 refine go A5 1 [] (fun _=>Ax [1] rfl<|Ag rfl ?_ Ai)
 refine Dy rfl rfl (eC Bn rfl rfl) (fun w f hM=>AE _ t _ _ _ _ _ _)<|go A5 1 [] (fun _=>Ax [1] rfl<|Ag rfl ?_ Ai)
 exact go A5 2 [0] (y<|fun _=>Ax [1] rfl<|B3<|go A5 4 [] (fun _=>AY (fun w f hM=>AI rfl (Ac rfl Bc hM.k0 rfl)) (fun w f hM=>⟨(⟨11,t.ln,t.co,[],0,nds5⟩,ands5,cnds5),f,rfl,(by simp[Bq,SP.need,A3,h1,h6,h9,hn10,hnds5]),hM.exm,⟨hM.f0,trivial⟩⟩)))
 refine go A5 7 [] (fun _=>AZ 125 rfl rfl (fun h14=>?_) (fun h14=>?_))
 obtain rfl:=beq_iff_eq.1 h14
 refine go A5 6 [1] (y<|fun _=>Ba rfl rfl (eC AM rfl rfl) (fun w2 f2 he hE=>⟨rfl,_,f2,rfl,(by simp[Bq,SP.need,A3,he,h1,h6,h9,h13]),hE⟩) fun hn11=>go A5 3 [] (fun _=>Dj [1] Ap (.rd 0 (.rd 1 (.br 2 (.br 3 (.br 4 .fin .fin) .fin) .fin))) rfl kR<|AA A5 2 [0] (y<|fun _=>Ag rfl ?_ Ai)))
 refine JY rfl rfl (eC Dv rfl rfl) (fun w f hM=>BX 38 D1 (Cr (n+1)) (GN n) (fun w f hv hJ t k a c hd hT=>ihx w f hv hJ t k a c hd hT) w f hM.vl hM.f1 l _ _ hall hlen hM.f0) (fun _=>⟨AK.mono,trivial⟩) (fun e w2 f2 he hE=>⟨rfl,e,f2,rfl,(by simp[Bq,SP.need,A3,he,h1,h6,h9,h13,hn11]),hE⟩) ?_
 rintro⟨⟨nds6,xnds6⟩,ands6,cnds6⟩ hnds6
 dsimp only at hnds6 ⊢
 refine go A5 1 [] (fun _=>Ax [1] rfl<|Ag rfl ?_ Ai)
 refine Dy rfl rfl (eC Bn rfl rfl) (fun w f hM=>AE _ t _ _ _ _ _ _)<|go A5 1 [] (fun _=>Ax [1] rfl<|Ag rfl ?_ Ai)
 exact go A5 2 [0] (y<|fun _=>Ax [1] rfl<|B3<|go A5 4 [] (fun _=>AY (fun w f hM=>AI rfl (Ac rfl Bc hM.k0 rfl)) (fun w f hM=>⟨(⟨12,t.ln,t.co,[],0,nds6⟩,ands6,cnds6),f,rfl,(by simp[Bq,SP.need,A3,h1,h6,h9,h13,hn11,hnds6]),hM.exm,⟨hM.f0,trivial⟩⟩)))
 refine go A5 7 [] (fun _=>AZ 135 rfl rfl (fun h15=>?_) (fun h15=>?_))
 obtain rfl:=beq_iff_eq.1 h15
 refine go A5 2 [] (fun _=>Dj [0,1] Ap (.rd 0 (.rd 1 (.br 2 (.br 3 .fin .fin) .fin))) rfl kR<|AA A5 2 [1] (y<|fun _=>Ag rfl ?_ Ai))
 refine Dy rfl rfl (eC Iy rfl rfl) (fun w f hM=>Dp _ _ _ _)<|go A5 1 [] (fun _=>Ax [0,1] rfl<|Ag rfl ?_ Ai)
 refine Ba rfl rfl (eC AM rfl rfl) (fun w2 f2 he hE=>⟨rfl,_,f2,rfl,(by simp[Bq,SP.need,A3,he,h1,h6,h9,h13,h14]),hE⟩) fun hn12=>go A5 1 [] (fun _=>Ax [0,1] rfl<|B3<|go A5 2 [] (fun _=>Dj [1] Ap (.rd 0 (.rd 1 (.br 2 (.br 3 (.br 4 .fin .fin) .fin) .fin))) rfl kR<|AA A5 2 [0] (y<|fun _=>Ag rfl ?_ Ai)))
 refine JY rfl rfl (eC Dv rfl rfl) (fun w f hM=>BX 38 D1 (Cr (n+1)) (GN n) (fun w f hv hJ t k a c hd hT=>ihx w f hv hJ t k a c hd hT) w f hM.vl hM.f1 l _ _ hall hlen hM.f0) (fun _=>⟨AK.mono,trivial⟩) (fun e w2 f2 he hE=>⟨rfl,e,f2,rfl,(by simp[Bq,SP.need,A3,he,h1,h6,h9,h13,h14,hn12]),hE⟩) ?_
 rintro⟨⟨nds7,xnds7⟩,ands7,cnds7⟩ hnds7
 dsimp only at hnds7 ⊢
 refine go A5 1 [] (fun _=>Ax [1] rfl<|Ag rfl ?_ Ai)
 refine Dy rfl rfl (eC Bn rfl rfl) (fun w f hM=>AE _ t _ _ _ _ _ _)<|go A5 1 [] (fun _=>Ax [1] rfl<|Ag rfl ?_ Ai)
 exact go A5 2 [0] (y<|fun _=>Ax [1] rfl<|B3<|go A5 4 [] (fun _=>AY (fun w f hM=>AI rfl (Ac rfl Bc hM.k0 rfl)) (fun w f hM=>⟨(⟨13,t.ln,t.co,[],0,nds7⟩,ands7,cnds7),f,rfl,(by simp[Bq,SP.need,A3,h1,h6,h9,h13,h14,hn12,hnds7]),hM.exm,⟨hM.f0,trivial⟩⟩)))
 refine go A5 8 [] (fun _=>AZ 145 rfl rfl (fun DW=>?_) (fun DW=>?_))
 obtain rfl:=beq_iff_eq.1 DW
 refine go A5 5 [] (fun _=>go A5 4 [1] (y<|fun _=>Ba rfl rfl (eC AM rfl rfl) (fun w2 f2 he hE=>⟨rfl,_,f2,rfl,(by simp[Bq,SP.need,A3,he,h1,h6,h9,h13,h14,h15]),hE⟩) fun hn13=>go A5 18 [] (fun _=>?_)))
 obtain⟨p,pk,r,rfl⟩:=Fo.cases1 l (by have:=of_decide_eq_true hn13;omega)
 have hge:0<r.len:=by have h9:=of_decide_eq_true hn13;simp only[Fo.len] at h9;omega
 have hlr:r.len+1≤100000:=hlen
 refine B4 (fun w f=>Bu w f r (D4 la lc 6) (lc-1)) (fun w f hM=>A9.rest hM.f0) Bu.mono<|B4 (fun w f=>A9 w f la 0 (.cons p pk r)) (fun w f hM=>Bu.at hM.f1) A9.mono<|CB (α:=Nat×Nat×Option Addr×Nat) (fun x=>la=some ⟨x.1,x.2.1,none⟩) (fun x=>[⟨x.1,x.2.1+0*6,JJ p x.2.2.1 pk.len x.2.2.2⟩]) (fun x=>[fun w f=>Bu w f pk x.2.2.1 x.2.2.2,fun w f=>A9 w f la 1 r]) (fun w f hM=>let ⟨b,off,ka,kc,h1,h2,h3,h4⟩:=A9.head hM.f0;⟨(b,off,ka,kc),h1,(oE h2),A1.mem ⟨h3,h4,trivial⟩⟩) (fun x=>Af.mem ⟨Bu.mono,A9.mono,trivial⟩) ?_
 rintro⟨eb0,eo0,k0a,k0c⟩ rfl
 refine Dj [1] Ap (rd [0,1,2,3,4,7,8] (.br 5 (.br 6 (.br 9 (.br 10 (.br 11 (.br 12 .fin .fin) .fin) .fin) .fin) (.br 9 (.br 6 (.br 10 (.br 11 (.br 12 .fin .fin) .fin) .fin) .fin) .fin)) .fin)) rfl kR<|AA A5 6 [0,100,0] (y<|And.intro (by simp only[Fo.len];omega)<|y2<|fun _=>HN rfl rfl rfl (fun w hK=>Hg rfl rfl rfl Gk)<|Ag rfl ?_ Ai)
 refine JY rfl rfl (eC D1 rfl rfl) (fun w f hM=>ihx w f hM.vl hM.f5 p pk _ _ hall.1 hM.f0) (fun _=>⟨AK.mono,trivial⟩) (fun e w2 f2 he hE=>⟨rfl,e,f2,rfl,(by simp[Bq,SP.need,A3,he,h1,h6,h9,h13,h14,h15,hn13]),hE⟩) ?_
 rintro⟨nd6,and6,cnd6⟩ hnd6
 dsimp only at hnd6 ⊢
 refine go A5 1 [] (fun _=>Ax [1] rfl<|Ag rfl ?_ ?_)
 refine go A5 2 [] (fun b6=>fun _=>Ax [2] rfl<|Ag rfl ?_ Ai)
 refine WO rfl rfl (eC Dv rfl rfl) (fun w f hM=>Hb 94 Qm (H6 (n+1) (Cr (n+1))) (GN n) (fun w f hv hJ t k a c hd hT=>iha w f hv hJ t k a c hd hT) w f hM.vl hM.f6 r _ _ hall.2 oM hM.f4) (fun _=>⟨Ce.mono,trivial⟩) (fun e w2 f2 he hE=>⟨rfl,e,f2,rfl,(by simp[Bq,SP.need,A3,he,h1,h6,h9,h13,h14,h15,hn13,hnd6]),hE⟩) ?_
 rintro⟨nds8,xnds8⟩ ands8 cnds8 hnds8
 dsimp only at hnds8 ⊢
 have hnl:=Ek hnds8
 refine Ky (p:=∃rb,ands8=some ⟨rb,0,none⟩) (fun w f hM=>by rcases (hM.row _ (.head _)).2 with ⟨_,_,h9⟩|⟨ob,_,h9,_⟩;(dsimp only at h9;omega);exact⟨ob,h9⟩) fun hob=>?_
 obtain⟨rb,rfl⟩:=hob
 refine dR 0 rfl rfl<|go A5 1 [] (fun _=>Bh [2] Fu rfl (fun _ h=>.tail _ h)<|Ag rfl ?_ Ai)
 refine lW 0 6 1 rfl rfl rfl dC<|Ky (p:=xnds8.length=nds8.len*6∧∀v∈xnds8,v.oneCell'=true) (fun w f hM=>⟨Ce.len hM.f0,Ce.one' hM.f0⟩) fun⟨hxl,hx1⟩=>WI 0 0 rfl rfl Mi rfl rfl rfl rfl rfl rfl hxl hx1 oM (fun _ _=>rfl) oM oM fun ands9 cnds9=>B4 (fun w f=>Ce w f (nd6.cons nds8) (F9 nd6.op nd6.ln nd6.co nd6.tx nd6.nm and6 nd6.kids.len cnd6++xnds8)) (fun w f hM=>Ce.cons' hM.f1 hM.f0) Ce.mono<|QH (fun w f=>AK w f (nd6.cons nds8) ands9 cnds9) AK.mono (fun w f hM=>KD hM hM.f0)<|go A5 1 [] (fun _=>Bh [1] Fu rfl (fun _ h=>.tail _ h)<|Ag rfl ?_ Ai)
 refine Dy rfl rfl (eC Bn rfl rfl) (fun w f hM=>AE _ t _ _ _ _ _ _)<|go A5 1 [] (fun _=>Bh [1] Fu rfl (fun _ h=>.tail _ h)<|Ag rfl ?_ Ai)
 exact go A5 2 [0] (y<|fun _=>Bh [1] Fu rfl (fun _ h=>.tail _ h)<|B3<|go A5 4 [] (fun _=>AY (fun w f hM=>AI rfl (Ac rfl Bc hM.k0 rfl)) (fun w f hM=>⟨(⟨14,t.ln,t.co,[],0,(nd6.cons nds8)⟩,ands9,cnds9),f,(by simp[nV,Nd.app_len,N.one,N.cons,Nd.len,Nat.add_comm]),(by simp[Bq,SP.need,A3,h1,h6,h9,h13,h14,h15,hn13,hnd6,hnds8]),hM.exm,⟨hM.f0,trivial⟩⟩)))
 refine Ag rfl ?_ Ai
 refine WO rfl rfl (eC Dv rfl rfl) (fun w f hM=>Hb 94 Qm (H6 (n+1) (Cr (n+1))) (GN n) (fun w f hv hJ t k a c hd hT=>iha w f hv hJ t k a c hd hT) w f hM.vl hM.f6 r _ _ hall.2 oM hM.f4) (fun _=>⟨Ce.mono,trivial⟩) (fun e w2 f2 he hE=>⟨rfl,e,f2,rfl,(by simp[Bq,SP.need,A3,he,h1,h6,h9,h13,h14,h15,hn13,hnd6]),hE⟩) ?_
 rintro⟨nds10,xnds10⟩ ands10 cnds10 hnds10
 dsimp only at hnds10 ⊢
 have hnl:=Ek hnds10
 refine Ky (p:=∃rb,ands10=some ⟨rb,0,none⟩) (fun w f hM=>by rcases (hM.row _ (.head _)).2 with ⟨_,_,h9⟩|⟨ob,_,h9,_⟩;(dsimp only at h9;omega);exact⟨ob,h9⟩) fun hob=>?_
 obtain⟨rb,rfl⟩:=hob
 refine dR 0 rfl rfl<|go A5 1 [] (fun _=>Bh [1] Fu rfl (fun _ h=>.tail _ h)<|Ag rfl ?_ Ai)
 refine go A5 2 [] (fun b7=>fun _=>Bh [2] Fu rfl (fun _ h=>.tail _ h)<|Ag rfl ?_ Ai)
 refine lW 0 6 1 rfl rfl rfl dC<|Ky (p:=xnds10.length=nds10.len*6∧∀v∈xnds10,v.oneCell'=true) (fun w f hM=>⟨Ce.len hM.f0,Ce.one' hM.f0⟩) fun⟨hxl,hx1⟩=>WI 0 0 rfl rfl Mi rfl rfl rfl rfl rfl rfl hxl hx1 oM (fun _ _=>rfl) oM oM fun ands11 cnds11=>B4 (fun w f=>Ce w f (nd6.cons nds10) (F9 nd6.op nd6.ln nd6.co nd6.tx nd6.nm and6 nd6.kids.len cnd6++xnds10)) (fun w f hM=>Ce.cons' hM.f1 hM.f0) Ce.mono<|QH (fun w f=>AK w f (nd6.cons nds10) ands11 cnds11) AK.mono (fun w f hM=>KD hM hM.f0)<|go A5 1 [] (fun _=>Bh [1] Fu rfl (fun _ h=>.tail _ h)<|Ag rfl ?_ Ai)
 refine Dy rfl rfl (eC Bn rfl rfl) (fun w f hM=>AE _ t _ _ _ _ _ _)<|go A5 1 [] (fun _=>Bh [1] Fu rfl (fun _ h=>.tail _ h)<|Ag rfl ?_ Ai)
 exact go A5 2 [0] (y<|fun _=>Bh [1] Fu rfl (fun _ h=>.tail _ h)<|B3<|go A5 4 [] (fun _=>AY (fun w f hM=>AI rfl (Ac rfl Bc hM.k0 rfl)) (fun w f hM=>⟨(⟨14,t.ln,t.co,[],0,(nd6.cons nds10)⟩,ands11,cnds11),f,(by simp[nV,Nd.app_len,N.one,N.cons,Nd.len,Nat.add_comm]),(by simp[Bq,SP.need,A3,h1,h6,h9,h13,h14,h15,hn13,hnd6,hnds10]),hM.exm,⟨hM.f0,trivial⟩⟩)))
 refine go A5 6 [] (fun _=>AZ 145 rfl rfl (fun h17=>?_) (fun h17=>?_))
 obtain rfl:=beq_iff_eq.1 h17
 refine go A5 2 [] (fun _=>go A5 4 [1] (y<|fun _=>Ba rfl rfl (eC AM rfl rfl) (fun w2 f2 he hE=>⟨rfl,_,f2,rfl,(by simp[Bq,SP.need,A3,he,h1,h6,h9,h13,h14,h15,DW]),hE⟩) fun hn14=>go A5 20 [] (fun _=>?_)))
 obtain⟨p,pk,r,rfl⟩:=Fo.cases1 l (by have:=of_decide_eq_true hn14;omega)
 have hge:0<r.len:=by have h9:=of_decide_eq_true hn14;simp only[Fo.len] at h9;omega
 have hlr:r.len+1≤100000:=hlen
 refine B4 (fun w f=>Bu w f r (D4 la lc 6) (lc-1)) (fun w f hM=>A9.rest hM.f0) Bu.mono<|B4 (fun w f=>A9 w f la 0 (.cons p pk r)) (fun w f hM=>Bu.at hM.f1) A9.mono<|CB (α:=Nat×Nat×Option Addr×Nat) (fun x=>la=some ⟨x.1,x.2.1,none⟩) (fun x=>[⟨x.1,x.2.1+0*6,JJ p x.2.2.1 pk.len x.2.2.2⟩]) (fun x=>[fun w f=>Bu w f pk x.2.2.1 x.2.2.2,fun w f=>A9 w f la 1 r]) (fun w f hM=>let ⟨b,off,ka,kc,h1,h2,h3,h4⟩:=A9.head hM.f0;⟨(b,off,ka,kc),h1,(oE h2),A1.mem ⟨h3,h4,trivial⟩⟩) (fun x=>Af.mem ⟨Bu.mono,A9.mono,trivial⟩) ?_
 rintro⟨eb0,eo0,k0a,k0c⟩ rfl
 refine Dj [1] Ap (rd [0,1,2,3,4,7,8] (.br 5 (.br 6 (.br 9 (.br 10 (.br 11 (.br 12 .fin .fin) .fin) .fin) .fin) (.br 9 (.br 6 (.br 10 (.br 11 (.br 12 .fin .fin) .fin) .fin) .fin) .fin)) .fin)) rfl kR<|AA A5 6 [0,100,0] (y<|And.intro (by simp only[Fo.len];omega)<|y2<|fun _=>HN rfl rfl rfl (fun w hK=>Hg rfl rfl rfl Gk)<|Ag rfl ?_ Ai)
 refine JY rfl rfl (eC D1 rfl rfl) (fun w f hM=>ihx w f hM.vl hM.f5 p pk _ _ hall.1 hM.f0) (fun _=>⟨AK.mono,trivial⟩) (fun e w2 f2 he hE=>⟨rfl,e,f2,rfl,(by simp[Bq,SP.need,A3,he,h1,h6,h9,h13,h14,h15,DW,hn14]),hE⟩) ?_
 rintro⟨nd7,and7,cnd7⟩ hnd7
 dsimp only at hnd7 ⊢
 refine go A5 1 [] (fun _=>Ax [1] rfl<|Ag rfl ?_ ?_)
 refine go A5 2 [] (fun b8=>fun _=>Ax [2] rfl<|Ag rfl ?_ Ai)
 refine WO rfl rfl (eC Dv rfl rfl) (fun w f hM=>Hb 94 Qm (H6 (n+1) (Cr (n+1))) (GN n) (fun w f hv hJ t k a c hd hT=>iha w f hv hJ t k a c hd hT) w f hM.vl hM.f6 r _ _ hall.2 oM hM.f4) (fun _=>⟨Ce.mono,trivial⟩) (fun e w2 f2 he hE=>⟨rfl,e,f2,rfl,(by simp[Bq,SP.need,A3,he,h1,h6,h9,h13,h14,h15,DW,hn14,hnd7]),hE⟩) ?_
 rintro⟨nds12,xnds12⟩ ands12 cnds12 hnds12
 dsimp only at hnds12 ⊢
 have hnl:=Ek hnds12
 refine Ky (p:=∃rb,ands12=some ⟨rb,0,none⟩) (fun w f hM=>by rcases (hM.row _ (.head _)).2 with ⟨_,_,h9⟩|⟨ob,_,h9,_⟩;(dsimp only at h9;omega);exact⟨ob,h9⟩) fun hob=>?_
 obtain⟨rb,rfl⟩:=hob
 refine dR 0 rfl rfl<|go A5 1 [] (fun _=>Bh [2] Fu rfl (fun _ h=>.tail _ h)<|Ag rfl ?_ Ai)
 refine lW 0 6 1 rfl rfl rfl dC<|Ky (p:=xnds12.length=nds12.len*6∧∀v∈xnds12,v.oneCell'=true) (fun w f hM=>⟨Ce.len hM.f0,Ce.one' hM.f0⟩) fun⟨hxl,hx1⟩=>WI 0 0 rfl rfl Mi rfl rfl rfl rfl rfl rfl hxl hx1 oM (fun _ _=>rfl) oM oM fun ands13 cnds13=>B4 (fun w f=>Ce w f (nd7.cons nds12) (F9 nd7.op nd7.ln nd7.co nd7.tx nd7.nm and7 nd7.kids.len cnd7++xnds12)) (fun w f hM=>Ce.cons' hM.f1 hM.f0) Ce.mono<|QH (fun w f=>AK w f (nd7.cons nds12) ands13 cnds13) AK.mono (fun w f hM=>KD hM hM.f0)<|go A5 1 [] (fun _=>Bh [1] Fu rfl (fun _ h=>.tail _ h)<|Ag rfl ?_ Ai)
 refine Dy rfl rfl (eC Bn rfl rfl) (fun w f hM=>AE _ t _ _ _ _ _ _)<|go A5 1 [] (fun _=>Bh [1] Fu rfl (fun _ h=>.tail _ h)<|Ag rfl ?_ Ai)
 exact go A5 2 [0] (y<|fun _=>Bh [1] Fu rfl (fun _ h=>.tail _ h)<|B3<|go A5 4 [] (fun _=>AY (fun w f hM=>AI rfl (Ac rfl Bc hM.k0 rfl)) (fun w f hM=>⟨(⟨15,t.ln,t.co,[],0,(nd7.cons nds12)⟩,ands13,cnds13),f,(by simp[nV,Nd.app_len,N.one,N.cons,Nd.len,Nat.add_comm]),(by simp[Bq,SP.need,A3,h1,h6,h9,h13,h14,h15,DW,hn14,hnd7,hnds12]),hM.exm,⟨hM.f0,trivial⟩⟩)))
 refine Ag rfl ?_ Ai
 refine WO rfl rfl (eC Dv rfl rfl) (fun w f hM=>Hb 94 Qm (H6 (n+1) (Cr (n+1))) (GN n) (fun w f hv hJ t k a c hd hT=>iha w f hv hJ t k a c hd hT) w f hM.vl hM.f6 r _ _ hall.2 oM hM.f4) (fun _=>⟨Ce.mono,trivial⟩) (fun e w2 f2 he hE=>⟨rfl,e,f2,rfl,(by simp[Bq,SP.need,A3,he,h1,h6,h9,h13,h14,h15,DW,hn14,hnd7]),hE⟩) ?_
 rintro⟨nds14,xnds14⟩ ands14 cnds14 hnds14
 dsimp only at hnds14 ⊢
 have hnl:=Ek hnds14
 refine Ky (p:=∃rb,ands14=some ⟨rb,0,none⟩) (fun w f hM=>by rcases (hM.row _ (.head _)).2 with ⟨_,_,h9⟩|⟨ob,_,h9,_⟩;(dsimp only at h9;omega);exact⟨ob,h9⟩) fun hob=>?_
 obtain⟨rb,rfl⟩:=hob
 refine dR 0 rfl rfl<|go A5 1 [] (fun _=>Bh [1] Fu rfl (fun _ h=>.tail _ h)<|Ag rfl ?_ Ai)
 refine go A5 2 [] (fun b9=>fun _=>Bh [2] Fu rfl (fun _ h=>.tail _ h)<|Ag rfl ?_ Ai)
 refine lW 0 6 1 rfl rfl rfl dC<|Ky (p:=xnds14.length=nds14.len*6∧∀v∈xnds14,v.oneCell'=true) (fun w f hM=>⟨Ce.len hM.f0,Ce.one' hM.f0⟩) fun⟨hxl,hx1⟩=>WI 0 0 rfl rfl Mi rfl rfl rfl rfl rfl rfl hxl hx1 oM (fun _ _=>rfl) oM oM fun ands15 cnds15=>B4 (fun w f=>Ce w f (nd7.cons nds14) (F9 nd7.op nd7.ln nd7.co nd7.tx nd7.nm and7 nd7.kids.len cnd7++xnds14)) (fun w f hM=>Ce.cons' hM.f1 hM.f0) Ce.mono<|QH (fun w f=>AK w f (nd7.cons nds14) ands15 cnds15) AK.mono (fun w f hM=>KD hM hM.f0)<|go A5 1 [] (fun _=>Bh [1] Fu rfl (fun _ h=>.tail _ h)<|Ag rfl ?_ Ai)
 refine Dy rfl rfl (eC Bn rfl rfl) (fun w f hM=>AE _ t _ _ _ _ _ _)<|go A5 1 [] (fun _=>Bh [1] Fu rfl (fun _ h=>.tail _ h)<|Ag rfl ?_ Ai)
 exact go A5 2 [0] (y<|fun _=>Bh [1] Fu rfl (fun _ h=>.tail _ h)<|B3<|go A5 4 [] (fun _=>AY (fun w f hM=>AI rfl (Ac rfl Bc hM.k0 rfl)) (fun w f hM=>⟨(⟨15,t.ln,t.co,[],0,(nd7.cons nds14)⟩,ands15,cnds15),f,(by simp[nV,Nd.app_len,N.one,N.cons,Nd.len,Nat.add_comm]),(by simp[Bq,SP.need,A3,h1,h6,h9,h13,h14,h15,DW,hn14,hnd7,hnds14]),hM.exm,⟨hM.f0,trivial⟩⟩)))
 refine go A5 8 [] (fun _=>AZ 166 rfl rfl (fun h18=>?_) (fun h18=>?_))
 obtain rfl:=beq_iff_eq.1 h18
 refine go A5 5 [] (fun _=>?_)
 rcases Fo.single l with ⟨p,pk,rfl⟩|hne
 refine B4 (fun w f=>A9 w f la 0 (.cons p pk .nil)) (fun w f hM=>Bu.at hM.f0) A9.mono<|CB (α:=Nat×Nat×Option Addr×Nat) (fun x=>la=some ⟨x.1,x.2.1,none⟩) (fun x=>[⟨x.1,x.2.1+0*6,JJ p x.2.2.1 pk.len x.2.2.2⟩]) (fun x=>[fun w f=>Bu w f pk x.2.2.1 x.2.2.2,fun w f=>A9 w f la 1 .nil]) (fun w f hM=>let ⟨b,off,ka,kc,h1,h2,h3,h4⟩:=A9.head hM.f0;⟨(b,off,ka,kc),h1,(oE h2),A1.mem ⟨h3,h4,trivial⟩⟩) (fun x=>Af.mem ⟨Bu.mono,A9.mono,trivial⟩) ?_
 rintro⟨eb0,eo0,k0a,k0c⟩ rfl
 refine go A5 4 [1] (y<|fun _=>Ba rfl rfl (eC AM rfl rfl) (fun w2 f2 he hE=>⟨rfl,_,f2,rfl,(by simp[Fo.len] at he),hE⟩) fun hn15=>go A5 18 [] (fun _=>Dj [1] Ap (rd [0,1,2,3,4] (.br 5 (.br 6 (.br 7 (.br 8 .fin .fin) .fin) .fin) .fin)) rfl kR<|AA A5 5 [0,100,0] (y<|And.intro (by simp only[Fo.len];omega)<|y2<|fun _=>Ag rfl ?_ Ai)))
 refine JY rfl rfl (eC D1 rfl rfl) (fun w f hM=>ihx w f hM.vl hM.f4 p pk _ _ hall.1 hM.f0) (fun _=>⟨AK.mono,trivial⟩) (fun e w2 f2 he hE=>⟨rfl,e,f2,rfl,(by simp[Bq,SP.need,A3,he,h1,h6,h9,h13,h14,h15,DW,h17,hn15]),hE⟩) ?_
 rintro⟨nd8,and8,cnd8⟩ hnd8
 dsimp only at hnd8 ⊢
 refine go A5 1 [] (fun _=>Ax [1] rfl<|Ag rfl ?_ Ai)
 refine go A5 2 [] (fun b10=>fun _=>Ax [2] rfl<|Ag rfl ?_ Ai)
 refine Dl 0 rfl rfl<|B4 (fun w f=>AK w f (nd8.one) (some ⟨b10,0,none⟩) 1) (fun w f hM=>Ce.toF (Ce.cons' hM.f0 (show Ce _ _ .nil [] from rfl)) hM.b0 (Nat.le_refl _)) AK.mono<|Dy rfl rfl (eC Bn rfl rfl) (fun w f hM=>AE _ t _ _ _ _ _ _)<|go A5 1 [] (fun _=>Bh [1] Fu rfl (fun _ h=>.tail _ h)<|Ag rfl ?_ Ai)
 exact go A5 2 [0] (y<|fun _=>Bh [1] Fu rfl (fun _ h=>.tail _ h)<|B3<|go A5 4 [] (fun _=>AY (fun w f hM=>AI rfl (Ac rfl Bc hM.k0 rfl)) (fun w f hM=>⟨(⟨16,t.ln,t.co,[],0,(nd8.one)⟩,(some ⟨b10,0,none⟩),1),f,rfl,(by simp[Bq,SP.need,A3,h1,h6,h9,h13,h14,h15,DW,h17,hn15,hnd8]),hM.exm,⟨hM.f0,trivial⟩⟩)))
 exact go A5 4 [1] (y<|fun _=>Ba rfl rfl (eC AM rfl rfl) (fun w2 f2 he hE=>⟨rfl,_,f2,rfl,(by rw[Xp (.inl rfl) hne]),hE⟩) fun hn16=>absurd (by have h9:=beq_iff_eq.1 hn16;omega) hne)
 refine go A5 6 [] (fun _=>AZ 166 rfl rfl (fun h19=>?_) (fun h19=>?_))
 obtain rfl:=beq_iff_eq.1 h19
 refine go A5 2 [] (fun _=>?_)
 rcases Fo.single l with ⟨p,pk,rfl⟩|hne
 refine B4 (fun w f=>A9 w f la 0 (.cons p pk .nil)) (fun w f hM=>Bu.at hM.f0) A9.mono<|CB (α:=Nat×Nat×Option Addr×Nat) (fun x=>la=some ⟨x.1,x.2.1,none⟩) (fun x=>[⟨x.1,x.2.1+0*6,JJ p x.2.2.1 pk.len x.2.2.2⟩]) (fun x=>[fun w f=>Bu w f pk x.2.2.1 x.2.2.2,fun w f=>A9 w f la 1 .nil]) (fun w f hM=>let ⟨b,off,ka,kc,h1,h2,h3,h4⟩:=A9.head hM.f0;⟨(b,off,ka,kc),h1,(oE h2),A1.mem ⟨h3,h4,trivial⟩⟩) (fun x=>Af.mem ⟨Bu.mono,A9.mono,trivial⟩) ?_
 rintro⟨eb0,eo0,k0a,k0c⟩ rfl
 refine go A5 4 [1] (y<|fun _=>Ba rfl rfl (eC AM rfl rfl) (fun w2 f2 he hE=>⟨rfl,_,f2,rfl,(by simp[Fo.len] at he),hE⟩) fun hn17=>go A5 20 [] (fun _=>Dj [1] Ap (rd [0,1,2,3,4] (.br 5 (.br 6 (.br 7 (.br 8 .fin .fin) .fin) .fin) .fin)) rfl kR<|AA A5 5 [0,100,0] (y<|And.intro (by simp only[Fo.len];omega)<|y2<|fun _=>Ag rfl ?_ Ai)))
 refine JY rfl rfl (eC D1 rfl rfl) (fun w f hM=>ihx w f hM.vl hM.f4 p pk _ _ hall.1 hM.f0) (fun _=>⟨AK.mono,trivial⟩) (fun e w2 f2 he hE=>⟨rfl,e,f2,rfl,(by simp[Bq,SP.need,A3,he,h1,h6,h9,h13,h14,h15,DW,h17,h18,hn17]),hE⟩) ?_
 rintro⟨nd9,and9,cnd9⟩ hnd9
 dsimp only at hnd9 ⊢
 refine go A5 1 [] (fun _=>Ax [1] rfl<|Ag rfl ?_ Ai)
 refine go A5 2 [] (fun b11=>fun _=>Ax [2] rfl<|Ag rfl ?_ Ai)
 refine Dl 0 rfl rfl<|B4 (fun w f=>AK w f (nd9.one) (some ⟨b11,0,none⟩) 1) (fun w f hM=>Ce.toF (Ce.cons' hM.f0 (show Ce _ _ .nil [] from rfl)) hM.b0 (Nat.le_refl _)) AK.mono<|Dy rfl rfl (eC Bn rfl rfl) (fun w f hM=>AE _ t _ _ _ _ _ _)<|go A5 1 [] (fun _=>Bh [1] Fu rfl (fun _ h=>.tail _ h)<|Ag rfl ?_ Ai)
 exact go A5 2 [0] (y<|fun _=>Bh [1] Fu rfl (fun _ h=>.tail _ h)<|B3<|go A5 4 [] (fun _=>AY (fun w f hM=>AI rfl (Ac rfl Bc hM.k0 rfl)) (fun w f hM=>⟨(⟨17,t.ln,t.co,[],0,(nd9.one)⟩,(some ⟨b11,0,none⟩),1),f,rfl,(by simp[Bq,SP.need,A3,h1,h6,h9,h13,h14,h15,DW,h17,h18,hn17,hnd9]),hM.exm,⟨hM.f0,trivial⟩⟩)))
 exact go A5 4 [1] (y<|fun _=>Ba rfl rfl (eC AM rfl rfl) (fun w2 f2 he hE=>⟨rfl,_,f2,rfl,(by rw[Xp (.inr rfl) hne]),hE⟩) fun hn18=>absurd (by have h9:=beq_iff_eq.1 hn18;omega) hne)
 exact go A5 7 [1] (y<|fun _=>fG rfl rfl (eC UA rfl rfl) (pe:=fun e=>e=(t.ln,t.co)) (T:=41) (fun w f hM=>(IX w t _).mono (fun _ _ h=>h.elim) fun _ w2 ⟨h1,h2⟩=>⟨_,f,h1,rfl,CM.of_ext h2 hM.vl⟩) (fun e w2 f2 he hE=>by subst he;exact⟨rfl,_,f2,rfl,(by simp[Bq,SP.need,A3,h1,h6,h9,h13,h14,h15,DW,h17,h18,h19]),hE⟩))
def uB:Ea:=⟨[(81,0,0),(79,0,0),(79,1,1),(79,2,3),(79,3,4),(81,1,5)],[(43,81,6)],[],[],[(3,false,1),(25,true,2),(54,true,6),(81,true,6),(9,false,1),(43,false,1)],[(54,[.int .i64 0,.int .i64 0,.int .i64 0,.string ⟨#[]⟩,.int .i64 0,.slice none 0 0]),(81,[.int .i64 0,.int .i64 0,.int .i64 0,.int .i64 0,.string ⟨#[]⟩,.slice none 0 0])],[(54,[(0,1),(1,2),(3,1),(4,1),(5,1)])],[]⟩
theorem BT:uB.Ok Tryz.prog:=⟨(And.intro I5 (And.intro PJ (And.intro UK (And.intro V6 (And.intro IA (And.intro IL trivial)))))),(And.intro Gk trivial),trivial,trivial,(And.intro CZ (And.intro CV (And.intro Bc (And.intro Lf (And.intro Hx (And.intro Oi trivial)))))),(And.intro G5 (And.intro O4 trivial)),(And.intro dM trivial),trivial⟩
theorem U8(w:World)(hG:Gl w)(tx:List UInt8):BF Tryz.prog 46 #[S eD,S ([32]++tx++[32])] w fun v w'=>v=.bool (ML tx)∧AV w w':=HT w hG _ _ dC
theorem Rq(n:Nat)(ih:∀n',n=n'+1→∀ (w:World) (f:Fq) (_:Vl w f) (_:D7 w f) (t:AT) (k:Fo) (a:Option Addr) (c:Nat),GN n' t k→Bu w f k a c→BQ Tryz.prog 38 #[fV t a k.len c] w (Ig (Cr (n'+1) t k) w f) (IV 41 (Cr (n'+1) t k) w f))(iha:∀n',n=n'+1→∀ (w:World) (f:Fq) (_:Vl w f) (_:D7 w f) (t:AT) (k:Fo) (a:Option Addr) (c:Nat),GN n' t k→Bu w f k a c→BQ Tryz.prog 94 #[fV t a k.len c] w (Ig (H6 (n'+1) (Cr (n'+1)) t k) w f) (IV 41 (H6 (n'+1) (Cr (n'+1)) t k) w f))(w:World)(f:Fq)(hv:Vl w f)(hJ:D7 w f)(t:AT)(k:Fo)(ka:Option Addr)(kc:Nat)(hp:GN n t k)(hL:Bu w f k ka kc) :
  BQ Tryz.prog 38 #[fV t ka k.len kc] w (Ig (Cr (n+1) t k) w f) (IV 41 (Cr (n+1) t k) w f):=by
 refine NT (X:=X0 w f) (H:=[]) (R:=[]) (B:=[]) (Fs:=[fun w f=>Bu w f k ka kc,fun w f=>D7 w f]) (f:=f) Tryz.func38 rfl rfl rfl (C7 hv ⟨hL,hJ,trivial⟩ ⟨Bu.mono,D7.mono,trivial⟩)<|go BT 21 [1] (fun b1=>fun b2=>y<|fun _=>AZ 8 rfl rfl (fun h1=>?_) (fun h1=>?_))
 exact go BT 16 [1,1,0] (y<|y<|y<|fun _=>AY (fun w f hM=>AI rfl (Ac rfl Bc hM.k0 rfl)) (fun w f hM=>⟨(⟨1,t.ln,t.co,[],t.nm,.nil⟩,none,0),f,rfl,(by unfold Cr;simp[SP.need,A3,h1]),hM.exm,⟨⟨Nat.zero_le _,.inl rfl⟩,trivial⟩⟩))
 refine go BT 7 [] (fun _=>AZ 17 rfl rfl (fun h2=>?_) (fun h2=>?_))
 exact go BT 7 [1,1] (y<|y<|fun _=>Dy rfl rfl (eC Bn rfl rfl) (fun w f hM=>AE _ t _ _ _ _ _ _)<|go BT 6 [0] (y<|fun _=>AY (fun w f hM=>AI rfl (Ac rfl Bc hM.k0 rfl)) (fun w f hM=>⟨(⟨2,t.ln,t.co,t.tx,0,.nil⟩,none,0),f,rfl,(by unfold Cr;simp[SP.need,A3,h1,h2]),hM.exm,⟨⟨Nat.zero_le _,.inl rfl⟩,trivial⟩⟩)))
 refine go BT 7 [] (fun _=>AZ 24 rfl rfl (fun h3=>?_) (fun h3=>?_))
 exact go BT 7 [1,1] (y<|y<|fun _=>Dy rfl rfl (eC Bn rfl rfl) (fun w f hM=>AE _ t _ _ _ _ _ _)<|go BT 6 [0] (y<|fun _=>AY (fun w f hM=>AI rfl (Ac rfl Bc hM.k0 rfl)) (fun w f hM=>⟨(⟨3,t.ln,t.co,t.tx,0,.nil⟩,none,0),f,rfl,(by unfold Cr;simp[SP.need,A3,h1,h2,h3]),hM.exm,⟨⟨Nat.zero_le _,.inl rfl⟩,trivial⟩⟩)))
 refine go BT 7 [] (fun _=>AZ 31 rfl rfl (fun h4=>?_) (fun h4=>?_))
 exact go BT 7 [1,1] (y<|y<|fun _=>Dy rfl rfl (eC Bn rfl rfl) (fun w f hM=>AE _ t _ _ _ _ _ _)<|go BT 6 [0] (y<|fun _=>AY (fun w f hM=>AI rfl (Ac rfl Bc hM.k0 rfl)) (fun w f hM=>⟨(⟨6,t.ln,t.co,t.tx,0,.nil⟩,none,0),f,rfl,(by unfold Cr;simp[SP.need,A3,h1,h2,h3,h4]),hM.exm,⟨⟨Nat.zero_le _,.inl rfl⟩,trivial⟩⟩)))
 refine go BT 7 [] (fun _=>AZ 38 rfl rfl (fun h5=>?_) (fun h5=>?_))
 refine go BT 2 [] (fun _=>Dj [0,1] Ap (.rd 0 (.rd 1 (.br 2 (.br 3 .fin .fin) .fin))) rfl kR<|AA BT 2 [1,1] (y<|y<|fun _=>Ag rfl ?_ Ai))
 refine Dy rfl rfl (eC NP rfl rfl) (fun w f hM=>Fa _ (D7.gl hM.f1) t _ hp.1.1 hp.1.2)<|go BT 1 [] (fun _=>Ax [0,1] rfl<|Ag rfl ?_ Ai)
 exact Ba rfl rfl (eC AM rfl rfl) (fun w2 f2 he hE=>⟨rfl,_,f2,rfl,(by unfold Cr;simp[SP.need,A3,he,h1,h2,h3,h4,h5]),hE⟩) fun hn1=>go BT 1 [] (fun _=>Ax [0,1] rfl<|B3<|go BT 7 [1,1] (y<|y<|fun _=>Dy rfl rfl (eC Bn rfl rfl) (fun w f hM=>AE _ t _ _ _ _ _ _)<|go BT 6 [0] (y<|fun _=>AY (fun w f hM=>AI rfl (Ac rfl Bc hM.k0 rfl)) (fun w f hM=>⟨(⟨5,t.ln,t.co,t.tx,0,.nil⟩,none,0),f,rfl,(by unfold Cr;simp[SP.need,A3,h1,h2,h3,h4,h5,hn1]),hM.exm,⟨⟨Nat.zero_le _,.inl rfl⟩,trivial⟩⟩))))
 refine go BT 13 [1] (y<|fun _=>AZ 52 rfl rfl (fun h6=>?_) (fun h6=>?_))
 refine go BT 2 [] (fun _=>?_)
 obtain rfl:k=.nil:=Fo.len0 (by have h9:((k.len:Int)==0)=true:=h6;have:=beq_iff_eq.1 h9;omega)
 exact go BT 2 [1] (y<|fun _=>Dy rfl rfl (eC Bn rfl rfl) (fun w f hM=>AE _ t _ _ _ _ _ _)<|go BT 5 [0] (y<|fun _=>AY (fun w f hM=>AI rfl (Ac rfl Bc hM.k0 rfl)) (fun w f hM=>⟨(⟨4,t.ln,t.co,[],0,.nil⟩,none,0),f,rfl,(by unfold Cr;simp[SP.need,A3,h1,h2,h3,h4,h5,h6]),hM.exm,⟨⟨Nat.zero_le _,.inl rfl⟩,trivial⟩⟩)))
 refine go BT 4 [] (fun _=>?_)
 obtain⟨h,hk,r,rfl⟩:=Fo.cases1 k (by have h9:((k.len:Int)==0)=false:=h6;have:=beq_eq_false_iff_ne.1 h9;omega)
 have hp0:=hp
 obtain⟨hto,hko,hkl,hdp⟩:=hp
 have hkl2:r.len+1≤100000:=hkl
 obtain⟨n,rfl⟩:∃q,n=q+1:=by cases n with|zero=>exact absurd hdp (by simp[Fo.deep])|succ q=>exact⟨q,rfl⟩
 have htl:=hko.1.2
 refine B4 (fun w f=>Bu w f r (D4 ka kc 6) (kc-1)) (fun w f hM=>A9.rest hM.f0) Bu.mono<|B4 (fun w f=>A9 w f ka 0 (.cons h hk r)) (fun w f hM=>Bu.at hM.f1) A9.mono<|CB (α:=Nat×Nat×Option Addr×Nat) (fun x=>ka=some ⟨x.1,x.2.1,none⟩) (fun x=>[⟨x.1,x.2.1+0*6,JJ h x.2.2.1 hk.len x.2.2.2⟩]) (fun x=>[fun w f=>Bu w f hk x.2.2.1 x.2.2.2,fun w f=>A9 w f ka 1 r]) (fun w f hM=>let ⟨b,off,ka,kc,h1,h2,h3,h4⟩:=A9.head hM.f0;⟨(b,off,ka,kc),h1,(oE h2),A1.mem ⟨h3,h4,trivial⟩⟩) (fun x=>Af.mem ⟨Bu.mono,A9.mono,trivial⟩) ?_
 rintro⟨eb,eo,hka,hkc⟩ rfl
 refine Dj [0,1] Ap (rd [0,1,2,3,4,5,6] (.br 7 (.br 8 (.rd 9 .fin) .fin) .fin)) rfl kR<|AA BT 6 [1,100,0,1] (y<|And.intro (by simp only[Fo.len];omega)<|y2<|y<|fun _=>HN rfl rfl rfl (fun w hK=>Hg rfl rfl rfl Gk)<|Ag rfl ?_ Ai)
 refine go BT 2 [] (fun b3=>fun _=>Ax [1,2] rfl<|Ag rfl ?_ Ai)
 refine go BT 2 [0] (y<|fun _=>Ax [1,2] rfl<|AA BT 1 [] (fun _=>B3<|go BT 12 [0] (y<|fun _=>AZ 62 rfl rfl (fun h7=>?_) (fun h7=>?_))))
 refine go BT 2 [] (fun _=>Dj [0,1,2] Ap (rd [0,1,2] (.br 3 (.br 4 .fin .fin) .fin)) rfl kR<|AA BT 3 [2] (y<|fun _=>Ag rfl ?_ Ai))
 refine Dy rfl rfl (eC Iy rfl rfl) (fun w f hM=>Dp _ _ _ _)<|go BT 1 [] (fun _=>Ax [0,1,2] rfl<|Ag rfl ?_ Ai)
 refine Ba rfl rfl (eC AM rfl rfl) (fun w2 f2 he hE=>⟨rfl,_,f2,rfl,(by unfold Cr;simp[SP.need,A3,he,h1,h2,h3,h4,h5,h6,h7]),hE⟩) fun hn2=>go BT 1 [] (fun _=>Ax [0,1,2] rfl<|B3<|go BT 2 [] (fun _=>Dj [0,2] Ap (rd [0,1,2,3,4] (.br 5 (.br 6 (.br 7 .fin .fin) .fin) .fin)) rfl kR<|AA BT 5 [1,0] (y<|y<|fun _=>Ag rfl ?_ Ai)))
 refine JY rfl rfl (eC Dv rfl rfl) (fun w f hM=>BX 38 D1 (Cr (n+1)) (GN n) (fun w f hv hJ t k a c hd hT=>ih n rfl w f hv hJ t k a c hd hT) w f hM.vl hM.f5 r _ _ (D8 hp0).2 oM hM.f3) (fun _=>⟨AK.mono,trivial⟩) (fun e w2 f2 he hE=>⟨rfl,e,f2,rfl,(by unfold Cr;simp[SP.need,A3,he,h1,h2,h3,h4,h5,h6,h7,hn2]),hE⟩) ?_
 rintro⟨⟨nds1,xnds1⟩,ands1,cnds1⟩ hnds1
 dsimp only at hnds1 ⊢
 refine go BT 1 [] (fun _=>Ax [0,2] rfl<|Ag rfl ?_ Ai)
 refine Dy rfl rfl (eC Bn rfl rfl) (fun w f hM=>AE _ t _ _ _ _ _ _)<|go BT 1 [] (fun _=>Ax [0,2] rfl<|Ag rfl ?_ Ai)
 exact go BT 2 [1] (y<|fun _=>Ax [0,2] rfl<|B3<|go BT 4 [] (fun _=>AY (fun w f hM=>AI rfl (Ac rfl Bc hM.k1 rfl)) (fun w f hM=>⟨(⟨6,t.ln,t.co,h.tx,0,nds1⟩,ands1,cnds1),f,rfl,(by unfold Cr;simp[SP.need,A3,h1,h2,h3,h4,h5,h6,h7,hn2,hnds1]),hM.exm,⟨hM.f0,trivial⟩⟩)))
 refine go BT 4 [0] (y<|fun _=>Dy rfl rfl (eC YA rfl rfl) (fun w f hM=>Gm _ h _)<|go BT 1 [] (fun _=>AZ 82 rfl rfl (fun h8=>?_) (fun h8=>?_)))
 refine go BT 5 [0] (y<|And.intro (by simp <;> omega)<|And.intro (by simp <;> omega)<|fun _=>Dy rfl rfl (eC PK rfl rfl) (fun w f hM=>U8 _ (D7.gl hM.f5) h.tx)<|go BT 4 [] (fun _=>AZ 79 rfl rfl (fun h9=>?_) (fun h9=>?_)))
 refine go BT 8 [2,0] (y<|y<|fun _=>?_)
 refine JY rfl rfl (eC kE rfl rfl) (fun w f hM=>VX n (ih n rfl) (iha n rfl) w f hM.vl hM.f5 t (.cons h hk r) _ _ h.tx r _ _ (D8 hp0).2 oM hM.f3) (fun _=>⟨AK.mono,trivial⟩) (fun e w2 f2 he hE=>⟨rfl,e,f2,rfl,(by unfold Cr;simp[SP.need,A3,he,h1,h2,h3,h4,h5,h6,h7,h8,h9]),hE⟩) ?_
 rintro⟨nd1,and1,cnd1⟩ hnd1
 dsimp only at hnd1 ⊢
 exact go BT 6 [1] (y<|fun _=>AY (fun w f hM=>AI rfl (Ac rfl Bc hM.k1 rfl)) (fun w f hM=>⟨(nd1,and1,cnd1),f,rfl,(by unfold Cr;simp[SP.need,A3,h1,h2,h3,h4,h5,h6,h7,h8,h9,hnd1]),hM.exm,⟨hM.f0,trivial⟩⟩))
 refine go BT 5 [] (fun _=>Dj [0,1,2] Ap (rd [0,1,2] (.br 3 (.br 4 .fin .fin) .fin)) rfl kR<|AA BT 3 [2] (y<|fun _=>Ag rfl ?_ Ai))
 refine Dy rfl rfl (eC Iy rfl rfl) (fun w f hM=>Dp _ _ _ _)<|go BT 1 [] (fun _=>Ax [0,1,2] rfl<|Ag rfl ?_ Ai)
 refine Ba rfl rfl (eC AM rfl rfl) (fun w2 f2 he hE=>⟨rfl,_,f2,rfl,(by unfold Cr;simp[SP.need,A3,he,h1,h2,h3,h4,h5,h6,h7,h8,h9]),hE⟩) fun hn3=>go BT 1 [] (fun _=>Ax [0,1,2] rfl<|B3<|go BT 2 [] (fun _=>Dj [0,2] Ap (rd [0,1,2] (.br 3 (.br 4 (.br 5 .fin .fin) .fin) .fin)) rfl kR<|AA BT 3 [1,1] (y<|y<|fun _=>Ag rfl ?_ Ai)))
 refine JY rfl rfl (eC Dv rfl rfl) (fun w f hM=>BX 38 D1 (Cr (n+1)) (GN n) (fun w f hv hJ t k a c hd hT=>ih n rfl w f hv hJ t k a c hd hT) w f hM.vl hM.f5 (.cons h hk r) _ _ (D8 hp0) hkl hM.f4) (fun _=>⟨AK.mono,trivial⟩) (fun e w2 f2 he hE=>⟨rfl,e,f2,rfl,(by unfold Cr;simp[SP.need,A3,he,h1,h2,h3,h4,h5,h6,h7,h8,h9,hn3]),hE⟩) ?_
 rintro⟨⟨nds2,xnds2⟩,ands2,cnds2⟩ hnds2
 dsimp only at hnds2 ⊢
 refine go BT 1 [] (fun _=>Ax [0,2] rfl<|Ag rfl ?_ Ai)
 refine Dy rfl rfl (eC Bn rfl rfl) (fun w f hM=>AE _ t _ _ _ _ _ _)<|go BT 1 [] (fun _=>Ax [0,2] rfl<|Ag rfl ?_ Ai)
 exact go BT 2 [1] (y<|fun _=>Ax [0,2] rfl<|B3<|go BT 2 [] (fun _=>AY (fun w f hM=>AI rfl (Ac rfl Bc hM.k1 rfl)) (fun w f hM=>⟨(⟨8,t.ln,t.co,[],0,nds2⟩,ands2,cnds2),f,rfl,(by unfold Cr;simp[SP.need,A3,h1,h2,h3,h4,h5,h6,h7,h8,h9,hn3,hnds2]),hM.exm,⟨hM.f0,trivial⟩⟩)))
 refine go BT 15 [] (fun _=>Dj [0,1,2] Ap (rd [0,1,2] (.br 3 (.br 4 .fin .fin) .fin)) rfl kR<|AA BT 3 [2] (y<|fun _=>Ag rfl ?_ Ai))
 refine Dy rfl rfl (eC Iy rfl rfl) (fun w f hM=>Dp _ _ _ _)<|go BT 1 [] (fun _=>Ax [0,1,2] rfl<|Ag rfl ?_ Ai)
 refine Ba rfl rfl (eC AM rfl rfl) (fun w2 f2 he hE=>⟨rfl,_,f2,rfl,(by unfold Cr;simp[SP.need,A3,he,h1,h2,h3,h4,h5,h6,h7,h8]),hE⟩) fun hn4=>go BT 1 [] (fun _=>Ax [0,1,2] rfl<|B3<|go BT 2 [] (fun _=>Dj [0,2] Ap (rd [0,1,2] (.br 3 (.br 4 (.br 5 .fin .fin) .fin) .fin)) rfl kR<|AA BT 3 [1,1] (y<|y<|fun _=>Ag rfl ?_ Ai)))
 refine JY rfl rfl (eC Dv rfl rfl) (fun w f hM=>BX 38 D1 (Cr (n+1)) (GN n) (fun w f hv hJ t k a c hd hT=>ih n rfl w f hv hJ t k a c hd hT) w f hM.vl hM.f5 (.cons h hk r) _ _ (D8 hp0) hkl hM.f4) (fun _=>⟨AK.mono,trivial⟩) (fun e w2 f2 he hE=>⟨rfl,e,f2,rfl,(by unfold Cr;simp[SP.need,A3,he,h1,h2,h3,h4,h5,h6,h7,h8,hn4]),hE⟩) ?_
 rintro⟨⟨nds3,xnds3⟩,ands3,cnds3⟩ hnds3
 dsimp only at hnds3 ⊢
 refine go BT 1 [] (fun _=>Ax [0,2] rfl<|Ag rfl ?_ Ai)
 refine Dy rfl rfl (eC Bn rfl rfl) (fun w f hM=>AE _ t _ _ _ _ _ _)<|go BT 1 [] (fun _=>Ax [0,2] rfl<|Ag rfl ?_ Ai)
 exact go BT 2 [1] (y<|fun _=>Ax [0,2] rfl<|B3<|go BT 2 [] (fun _=>AY (fun w f hM=>AI rfl (Ac rfl Bc hM.k1 rfl)) (fun w f hM=>⟨(⟨8,t.ln,t.co,[],0,nds3⟩,ands3,cnds3),f,rfl,(by unfold Cr;simp[SP.need,A3,h1,h2,h3,h4,h5,h6,h7,h8,hn4,hnds3]),hM.exm,⟨hM.f0,trivial⟩⟩)))
end Go.Proofs.YthofplgbhecdcaaGreatDoor
namespace Go.SP
open Go.SW Go.RowKit
def Mm(l:List (List UInt8)):List (List UInt8×Value):=l.map fun k=>(k,.bool true)
theorem Vs(n:List UInt8):∀l:List (List UInt8),FC (Mm l) n=if l.contains n then some (.bool true) else none
 | []=>rfl
 |k::l=>by
   have:=Vs n l
   simp only[Mm,List.map,FC,List.contains_cons] at this ⊢
   by_cases hk:n=k
   · subst hk;simp
   · have e:(n==k)=false:=by simpa using hk
     rw[e,this];simp
theorem pW(n:List UInt8)(l:List (List UInt8)):(FC (Mm l) n).getD (.bool false)=.bool (l.contains n):=by rw[Vs];cases l.contains n <;> rfl
theorem sC{n:List UInt8}{l:List (List UInt8)}(h:l.contains n=false):FC (Mm l) n=none:=by rw[Vs,h];rfl
theorem fA:∀{l:List (List UInt8)},l.Nodup→KP (Mm l)
 | [],_=>trivial
 |k::l,h=>⟨by
     have h':=List.nodup_cons.1 h
     show FC (Mm l) k=none
     rw[Vs,if_neg];simpa using h'.1,fA (List.nodup_cons.1 h).2⟩
abbrev Kq(m:Nat)(l:List (List UInt8)):World→Fq→Prop:=fun w _=>Ci CE w m (Mm l)
theorem JD{m:Nat}{l:List (List UInt8)}:Gr (fun b=>b=m) (Kq m l):=fun _ _ _ _ h _ hb=>h.heap (hb m rfl)
section
variable{s s0 s2:List (List UInt8)}{op ln co nm:Int}{tx:List UInt8}{k k0 r:Nd}
theorem V5(h:(op==22)=false):BU s (.cons op ln co tx nm k .nil)=BU s k:=by
 simp only[BU,h]
 show (match BU s k with|none=>none|some s2=>some s2)=_
 cases BU s k <;> rfl
theorem S5(h:(op==22)=true)(h2:s.contains tx=false):BU s (.cons op ln co tx nm k .nil)=BU (tx::s) k:=by
 simp only[BU,h,h2]
 show (match BU (tx::s) k with|none=>none|some s2=>some s2)=_
 cases BU (tx::s) k <;> rfl
theorem Yl(h:(op==22)=true)(h2:s.contains tx=true):BU s (.cons op ln co tx nm k .nil)=none:=by
 simp only[BU,h,h2]
 rfl
theorem OZ(hk:BU s0 k0=BU s (.cons op ln co tx nm k r))(h:(BU s (.cons op ln co tx nm k .nil)).isSome=true)(hs:∀s',BU s (.cons op ln co tx nm k .nil)=some s'→s'=s2):BU s0 k0=BU s2 r:=by
 obtain⟨s',h'⟩:=Option.isSome_iff_exists.1 h
 obtain rfl:=hs s' h'
 rw[hk,MS,h']
theorem Se(hk:BU s0 k0=BU s (.cons op ln co tx nm k r))(h:(BU s (.cons op ln co tx nm k .nil)).isSome=false):BU s0 k0=none:=by
 rw[hk,MS]
 cases h':BU s (.cons op ln co tx nm k .nil) with
 |none=>rfl
 |some _=>rw[h'] at h;cases h
end
def eI(P:Program)(fid:FuncId)(n:Nat):Prop:=∀(w:World)(f:Fq)(_:Vl w f)(m:Nat)(seen:List (List UInt8)),Kq m seen w f→f m=0→seen.Nodup→∀(op ln co nm:Int)(tx:List UInt8)(kids:Nd)(na:Option Addr)(nc:Nat),kids.size<n→kids.len≤100000∧kids.ok→AK w f kids na nc →
 BF P fid #[.agg #[.int .i64 op,.int .i64 ln,.int .i64 co,S tx,.int .i64 nm,.slice na kids.len nc],.map (some m)] w (O0 (α:=List (List UInt8)) (fun _=>.bool (BU seen (.cons op ln co tx nm kids .nil)).isSome) (fun s=>(∀s',BU seen (.cons op ln co tx nm kids .nil)=some s'→s'=s)∧s.Nodup) (fun b=>b=m) (fun _ b=>b=m) (fun s=>Kq m s) (fun _=>[]) w f)
theorem Fo.all_imp{p q:AT→Fo→Prop}(h:∀t k,p t k→q t k):∀{fo:Fo},fo.all p→fo.all q
 |.nil,_=>trivial
 |.cons _ _ _,hp=>⟨h _ _ hp.1,Fo.all_imp h hp.2⟩
theorem aE:∀{n:Nat}{t:AT}{k:Fo},GN n t k→k.all (GN n)
 |0,_,.nil,_=>trivial
 |0,_,.cons _ _ _,h=>absurd h.2.2.2 (by simp[Fo.deep])
 |_+1,_,_,h=>Fo.all_imp (fun _ _ h=>Ra h) (D8 h)
theorem V1{n:Nat}{ex:AT→Fo→R N}{t:AT}{k:Fo}(h:k.len≠2):H6 n ex t k=.error (t.ln,t.co):=by
 unfold H6
 split
 · simp[Fo.len] at h
 · rfl
end Go.SP
namespace Go.SP
open Go.SW Go.RowKit
theorem Nd.getN(i:Nat)(x:Nd)(h:i<x.len):∃q:N,x.drop i=q.cons (x.drop (i+1)) :=
 let ⟨op,ln,co,tx,nm,k,e⟩:=Nd.drop_lt i x h
 ⟨⟨op,ln,co,tx,nm,k⟩,e⟩
theorem Az.elem{w:World}{f:Fq}{a:Option Addr}{q:N}:∀{i:Nat}{k:Nd}{j:Nat},Az w f a j k→k.drop i=q.cons (k.drop (i+1))→∃b off ka kc,a=some ⟨b,off,none⟩∧Cs w f b (off+(j+i)*6) (F9 q.op q.ln q.co q.tx q.nm ka q.kids.len kc)∧AK w f q.kids ka kc
 |0,k,j,h,e=>by
   have e:k=q.cons (k.drop 1):=e
   rw[e] at h
   obtain⟨b,off,ka,kc,h1,h2,h3,-⟩:=Az.head h
   exact⟨b,off,ka,kc,h1,h2,h3⟩
 |_+1,.nil,_,_,e=>by cases e
 |i+1,.cons _ _ _ _ _ _ r,j,h,e=>by
   obtain⟨_,_,_,_,_,_,_,h4⟩:=Az.head h
   have:=Az.elem (i:=i) (k:=r) h4 e
   rwa[show j+1+i=j+(i+1) by omega] at this
theorem AK.elem{w:World}{f:Fq}{a:Option Addr}{q:N}{i c:Nat}{k:Nd}(h:AK w f k a c)(e:k.drop i=q.cons (k.drop (i+1))):∃b off ka kc,a=some ⟨b,off,none⟩∧Cs w f b (off+i*6) (F9 q.op q.ln q.co q.tx q.nm ka q.kids.len kc)∧AK w f q.kids ka kc:=by
 have:=Az.elem (AK.at h) e
 rwa[Nat.zero_add] at this
end Go.SP
namespace Go.SP
theorem Fo.nc:∀k:Fo,k=.nil∨∃h hk r,k=.cons h hk r
 |.nil=>.inl rfl
 |.cons h hk r=>.inr ⟨h,hk,r,rfl⟩
theorem Fo.most:∀l:Fo,(∃a ak b bk c ck r,l=.cons a ak (.cons b bk (.cons c ck r)))∨l.len<3
 |.nil=>.inr (by simp[Fo.len])
 |.cons _ _ .nil=>.inr (by simp[Fo.len])
 |.cons _ _ (.cons _ _ .nil)=>.inr (by simp[Fo.len])
 |.cons a ak (.cons b bk (.cons c ck r))=>.inl ⟨a,ak,b,bk,c,ck,r,rfl⟩
section
variable{n:Nat}{t h:AT}{hk l:Fo}{b:Bool}{X:R N}
theorem HX(hX:X=.error (t.ln,t.co)):SP.need t b X=.error (t.ln,t.co):=by subst hX;cases b <;> rfl
theorem ZO(hw:h.tx=[100,97,116,97])(hl:l.len<3):Da n t (.cons h hk l)=.error (t.ln,t.co):=by
 unfold Da
 refine HX ?_
 rw[if_pos (by rw[hw];decide)]
 split
 · simp[Fo.len] at hl;omega
 · rfl
theorem bW(hw:h.tx=[114,111,111,116])(hl:l.len≠3):Da n t (.cons h hk l)=.error (t.ln,t.co):=by
 unfold Da
 refine HX ?_
 rw[if_neg (by rw[hw];decide),if_pos (by rw[hw];decide)]
 split
 · simp[Fo.len] at hl
 · rfl
theorem jW(hw:h.tx=[100,101,102])(hl:l.len≠2):Da n t (.cons h hk l)=.error (t.ln,t.co):=by
 unfold Da
 refine HX ?_
 rw[if_neg (by rw[hw];decide),if_neg (by rw[hw];decide),if_pos (by rw[hw];decide)]
 split
 · simp[Fo.len] at hl
 · rfl
theorem jY(hw:h.tx=[114,101,99])(hl:l.len≠2):Da n t (.cons h hk l)=.error (t.ln,t.co):=by
 unfold Da
 refine HX ?_
 rw[if_neg (by rw[hw];decide),if_neg (by rw[hw];decide),if_neg (by rw[hw];decide),if_pos (by rw[hw];decide)]
 split
 · simp[Fo.len] at hl
 · rfl
theorem lV(hw:h.tx=[100,111])(hl:l.len≠1):Da n t (.cons h hk l)=.error (t.ln,t.co):=by
 unfold Da
 refine HX ?_
 rw[if_neg (by rw[hw];decide),if_neg (by rw[hw];decide),if_neg (by rw[hw];decide),if_neg (by rw[hw];decide),if_pos (by rw[hw];decide)]
 split
 · simp[Fo.len] at hl
 · rfl
theorem Tr(h1:(h.tx==[100,97,116,97])=false)(h2:(h.tx==[114,111,111,116])=false)(h3:(h.tx==[100,101,102])=false)(h4:(h.tx==[114,101,99])=false)(h5:(h.tx==[100,111])=false):Da n t (.cons h hk l)=.error (t.ln,t.co):=by
 unfold Da
 refine HX ?_
 simp only[h1,h2,h3,h4,h5]
 rfl
end
end Go.SP
namespace Go.SP
open Go.SW Go.RowKit
theorem A9.toF{w:World}{f:Fq}{b o i c:Nat}{k:Fo}(h:A9 w f (some ⟨b,o,none⟩) i k)(hc:k.len≤c):Bu w f k (some ⟨b,o+i*6,none⟩) c:=⟨hc,h.imp id fun⟨_,_,h1,h2⟩=>⟨b,o+i*6,rfl,by cases h1;exact h2⟩⟩
theorem Zr{P:Program}{σ:Bo}{w:World}{ty T e:TypeId}{x lo:Operand}{k len b off c:Nat}(m:Nat)(hl:len=m+2)(hx:ev σ x=some (.slice (some ⟨b,off,none⟩) len c))(hlo:ev σ lo=some (.int .i64 2))(hc:c≠2)(hs:JV P T=some (e,k)):AO P σ (.slice T x (some lo) none none) ty w (.slice (some ⟨b,off+2*k,none⟩) m (c-2)) w:=by
 subst hl
 exact Zk hx hlo hs hc
section
variable{bk q vk:Fo}{v:AT}{vs:Nd}
theorem aO(h:Cg bk=match Cg (.cons v vk q) with|none=>none|some x=>some (vs.app x))(hv:v.isTypeVar=true):Cg bk=match Cg q with|none=>none|some x=>some ((vs.app (A3 v 31 v.tx .nil).one).app x):=by
 rw[h]
 cases hq:Cg q with
 |none=>rw[RG hq]
 |some x=>rw[Tb hv hq];simp only[Nd.app_assoc];rfl
theorem jO(h:Cg bk=match Cg (.cons v vk q) with|none=>none|some x=>some (vs.app x))(hv:v.isTypeVar=false):Cg bk=none:=by rw[h,Ud hv]
theorem XP:Cg bk=match Cg bk with|none=>none|some x=>some (Nd.nil.app x):=by cases Cg bk <;> rfl
theorem jI(h:Cg bk=match Cg .nil with|none=>none|some x=>some (vs.app x)):Cg bk=some vs:=by rw[h];show some (vs.app .nil)=_;rw[Nd.app_nil]
end
end Go.SP
namespace Go.Proofs.YthofplgbhecdcaaGreatDoor
open Go.SW Go.SP Go.RowKit
def uK:Ea:=⟨[(54,0,0),(54,2,3),(54,4,5),(81,1,5)],[(23,54,6),(43,81,6)],[],[],[(3,false,1),(9,false,1),(23,false,1),(54,true,6),(81,true,6),(43,false,1)],[(54,[.int .i64 0,.int .i64 0,.int .i64 0,.string ⟨#[]⟩,.int .i64 0,.slice none 0 0])],[],[]⟩
theorem CG:uK.Ok Tryz.prog:=⟨(And.intro IY (And.intro GH (And.intro Ga (And.intro IL trivial)))),(And.intro EI (And.intro Gk trivial)),trivial,trivial,(And.intro CZ (And.intro Hx (And.intro EM (And.intro Bc (And.intro Lf (And.intro Oi trivial)))))),(And.intro G5 trivial),trivial,trivial⟩
theorem Wy(n:Nat)(ih:eI Tryz.prog 118 n)(w:World)(f:Fq)(hv:Vl w f)(m:Nat)(seen:List (List UInt8))(hS:Kq m seen w f)(hf:f m=0)(hnd:seen.Nodup)(op ln co nm:Int)(tx:List UInt8)(kids:Nd)(na:Option Addr)(nc:Nat)(hm:kids.size<n+1)(hok:kids.len≤100000∧kids.ok)(hN:AK w f kids na nc) :
  BF Tryz.prog 118 #[.agg #[.int .i64 op,.int .i64 ln,.int .i64 co,S tx,.int .i64 nm,.slice na kids.len nc],.map (some m)] w (O0 (α:=List (List UInt8)) (fun _=>.bool (BU seen (.cons op ln co tx nm kids .nil)).isSome) (fun s=>(∀s',BU seen (.cons op ln co tx nm kids .nil)=some s'→s'=s)∧s.Nodup) (fun b=>b=m) (fun _ b=>b=m) (fun s=>Kq m s) (fun _=>[]) w f):=by
 have hkl:=hok.1
 refine Dg (X:=⟨fun b=>b=m,fun b=>b=m,Kq m seen,w,f⟩) (H:=[]) (R:=[]) (B:=[]) (Fs:=[fun w f=>AK w f kids na nc]) (f:=f) Tryz.func118 rfl rfl rfl (Zs (M:=fun b=>b=m) hv hS JD (fun b hb=>by subst hb;exact⟨Ci.lt hS,hf⟩) ⟨hN,trivial⟩ ⟨AK.mono,trivial⟩)<|go CG 14 [0] (fun b1=>y<|fun _=>AZ 9 rfl rfl (fun h1=>?_) (fun h1=>?_))
 refine go CG 7 [0] (y<|fun _=>Fh rfl rfl (fun w f hM=>Ns (K:=CE) (a:=tx) rfl rfl UI H7 aZ hM.res (fA hnd) (pW tx seen))<|go CG 2 [] (fun _=>AZ 13 rfl rfl (fun h2=>?_) (fun h2=>?_)))
 refine go CG 9 [] (fun _=>?_)
 have h9:=Yl (ln:=ln) (co:=co) (nm:=nm) (k:=kids) h1 h2
 exact AY (Dz rfl rfl) (fun w f hM=>⟨seen,f,(by rw[h9];rfl),⟨(fun s' h=>by rw[h9] at h;cases h <;> rfl),hnd⟩,hM.exm,(fun b h=>.inl h),hM.res,trivial⟩)
 refine go CG 7 [0] (y<|fun _=>ZG (K:=CE) (a:=tx) (l:=Mm seen) (I':=Kq m (tx::seen)) rfl rfl rfl rfl UI H7 rfl (fA hnd) (sC h2) (fun w f h=>h) (fun w f w2 h hM hC hm=>hm) JD<|go CG 12 [0] (y<|fun _=>?_))
 refine H9 (α:=Nat×Nd×List (List UInt8)) (fun x=>x.2.1.len) (fun x=>x.1+x.2.1.len=kids.len∧BU (tx::seen) kids=BU x.2.2 x.2.1∧x.2.2.Nodup∧x.2.1.ok∧x.2.1.size≤kids.size) (fun x=>(E4 1 (.map (some m)) 18 (.slice na kids.len nc) 19 (.int .i64 (kids.len:Int)) 20 (.int .i64 (x.1:Int)))) (fun x=>⟨fun b=>b=m,fun b=>b=m,Kq m x.2.2,w,f⟩) (fun x=>[]) (fun x=>[]) (fun x=>[]) (fun x=>[fun w f=>Az w f na x.1 x.2.1]) (0,kids,(tx::seen)) ⟨Nat.zero_add _,rfl,(List.nodup_cons.2 ⟨by simpa using h2,hnd⟩),hok.2,Nat.le_refl _⟩ lE (fun w f hM=>hM.more (B':=[]) (F':=[fun w f=>Az w f na 0 kids]) nE (A1.mem ⟨AK.at hM.f0,trivial⟩) (Af.mem ⟨Az.mono,trivial⟩) |>.less (.cons _ sR) sR nE (mR [0])) ?_
 rintro⟨i,r,s⟩ ⟨hi,hk,hsn,hro,hrs⟩
 dsimp only at hi hk hsn hro hrs ⊢
 refine go CG 6 [] (fun _=>AZ 21 rfl rfl (fun h3=>?_) (fun h3=>?_))
 refine go CG 6 [] (fun _=>?_)
 have hil:i<kids.len:=by have:=of_decide_eq_true h3;omega
 obtain⟨op2,ln2,co2,tx2,nm2,k2,r,rfl⟩:=Nd.cases1 r oM
 have hi2:i+(r.len+1)=kids.len:=hi
 refine CB (α:=Nat×Nat×Option Addr×Nat) (fun x=>na=some ⟨x.1,x.2.1,none⟩) (fun x=>[⟨x.1,x.2.1+i*6,F9 op2 ln2 co2 tx2 nm2 x.2.2.1 k2.len x.2.2.2⟩]) (fun x=>[fun w f=>AK w f k2 x.2.2.1 x.2.2.2,fun w f=>Az w f na (i+1) r]) (fun w f hM=>let ⟨b,off,ka,kc,h1,h2,h3,h4⟩:=Az.head hM.f0;⟨(b,off,ka,kc),h1,(oE h2),A1.mem ⟨h3,h4,trivial⟩⟩) (fun x=>Af.mem ⟨AK.mono,Az.mono,trivial⟩) ?_
 rintro⟨eb,eo,ka,kc⟩ rfl
 refine go CG 11 [100,0,0,0] (And.intro oM<|y2<|fun b2=>y<|y<|fun _=>bG (α:=List (List UInt8)) (XX:=fun _ _=>False) rfl rfl (eC Qo rfl rfl) (fun w f hM=>(ih w f hM.vl m s hM.res (hM.mi m rfl).2.1 hsn op2 ln2 co2 nm2 tx2 k2 ka kc (by have h9:(Nd.cons op2 ln2 co2 tx2 nm2 k2 r).size≤kids.size:=hrs;simp only[Nd.size] at h9;omega) ⟨hro.1,hro.2.1⟩ hM.f0).retP) (fun _=>JD) (fun _=>trivial) (fun _ _ _ _ _ h=>h.elim) ?_)
 rintro s2 ⟨hs2,hsn2⟩
 refine go CG 3 [] (fun _=>AZ 27 rfl rfl (fun h4=>?_) (fun h4=>?_))
 replace h4:=FL h4
 refine go CG 9 [] (fun _=>cU<|go CG 2 [] (fun _=>?_))
 have h9:=(S5 (ln:=ln) (co:=co) (nm:=nm) (k:=kids) h1 h2).trans (Se hk h4)
 exact AY (Dz rfl rfl) (fun w f hM=>⟨s2,f,(by rw[h9];rfl),⟨(fun s' h=>by rw[h9] at h;cases h <;> rfl),hsn2⟩,hM.exm,(fun b h=>.inl h),hM.res,trivial⟩)
 replace h4:=Gn h4
 exact go CG 8 [] (And.intro ⟨oM,oM⟩<|fun _=>Eb ((i+1,r,s2)) (show r.len<r.len+1 from Nat.lt_succ_self _) ⟨show i+1+r.len=_ by omega,OZ hk h4 hs2,hsn2,hro.2.2,show r.size≤kids.size by have h9:(Nd.cons op2 ln2 co2 tx2 nm2 k2 r).size≤kids.size:=hrs;simp only[Nd.size] at h9;omega⟩ lE (fun w f hM=>⟨_,hM.less (.cons _ sR) sR nE (mR [1])⟩))
 refine go CG 3 [] (fun _=>Hc<|go CG 8 [] (fun _=>?_))
 obtain rfl:r=.nil:=Nd.len0 (by have:=of_decide_eq_false h3;omega)
 have h9:=(S5 (ln:=ln) (co:=co) (nm:=nm) (k:=kids) h1 h2).trans (hk.trans (show BU s .nil=some s from rfl))
 exact AY (Dz rfl rfl) (fun w f hM=>⟨s,f,(by rw[h9];rfl),⟨(fun s' h=>by rw[h9] at h;cases h <;> rfl),hsn⟩,hM.exm,(fun b h=>.inl h),hM.res,trivial⟩)
 refine go CG 13 [0] (y<|fun _=>?_)
 refine H9 (α:=Nat×Nd×List (List UInt8)) (fun x=>x.2.1.len) (fun x=>x.1+x.2.1.len=kids.len∧BU seen kids=BU x.2.2 x.2.1∧x.2.2.Nodup∧x.2.1.ok∧x.2.1.size≤kids.size) (fun x=>(E4 1 (.map (some m)) 18 (.slice na kids.len nc) 19 (.int .i64 (kids.len:Int)) 20 (.int .i64 (x.1:Int)))) (fun x=>⟨fun b=>b=m,fun b=>b=m,Kq m x.2.2,w,f⟩) (fun x=>[]) (fun x=>[]) (fun x=>[]) (fun x=>[fun w f=>Az w f na x.1 x.2.1]) (0,kids,seen) ⟨Nat.zero_add _,rfl,hnd,hok.2,Nat.le_refl _⟩ lE (fun w f hM=>hM.more (B':=[]) (F':=[fun w f=>Az w f na 0 kids]) nE (A1.mem ⟨AK.at hM.f0,trivial⟩) (Af.mem ⟨Az.mono,trivial⟩) |>.less (.cons _ sR) sR nE (mR [0])) ?_
 rintro⟨i,r,s⟩ ⟨hi,hk,hsn,hro,hrs⟩
 dsimp only at hi hk hsn hro hrs ⊢
 refine go CG 6 [] (fun _=>AZ 21 rfl rfl (fun h5=>?_) (fun h5=>?_))
 refine go CG 6 [] (fun _=>?_)
 have hil:i<kids.len:=by have:=of_decide_eq_true h5;omega
 obtain⟨op2,ln2,co2,tx2,nm2,k2,r,rfl⟩:=Nd.cases1 r oM
 have hi2:i+(r.len+1)=kids.len:=hi
 refine CB (α:=Nat×Nat×Option Addr×Nat) (fun x=>na=some ⟨x.1,x.2.1,none⟩) (fun x=>[⟨x.1,x.2.1+i*6,F9 op2 ln2 co2 tx2 nm2 x.2.2.1 k2.len x.2.2.2⟩]) (fun x=>[fun w f=>AK w f k2 x.2.2.1 x.2.2.2,fun w f=>Az w f na (i+1) r]) (fun w f hM=>let ⟨b,off,ka,kc,h1,h2,h3,h4⟩:=Az.head hM.f0;⟨(b,off,ka,kc),h1,(oE h2),A1.mem ⟨h3,h4,trivial⟩⟩) (fun x=>Af.mem ⟨AK.mono,Az.mono,trivial⟩) ?_
 rintro⟨eb,eo,ka,kc⟩ rfl
 refine go CG 11 [100,0,0,0] (And.intro oM<|y2<|fun b3=>y<|y<|fun _=>bG (α:=List (List UInt8)) (XX:=fun _ _=>False) rfl rfl (eC Qo rfl rfl) (fun w f hM=>(ih w f hM.vl m s hM.res (hM.mi m rfl).2.1 hsn op2 ln2 co2 nm2 tx2 k2 ka kc (by have h9:(Nd.cons op2 ln2 co2 tx2 nm2 k2 r).size≤kids.size:=hrs;simp only[Nd.size] at h9;omega) ⟨hro.1,hro.2.1⟩ hM.f0).retP) (fun _=>JD) (fun _=>trivial) (fun _ _ _ _ _ h=>h.elim) ?_)
 rintro s2 ⟨hs2,hsn2⟩
 refine go CG 3 [] (fun _=>AZ 27 rfl rfl (fun h6=>?_) (fun h6=>?_))
 replace h6:=FL h6
 refine go CG 9 [] (fun _=>cU<|go CG 2 [] (fun _=>?_))
 have h9:=(V5 (ln:=ln) (co:=co) (nm:=nm) (tx:=tx) (k:=kids) h1).trans (Se hk h6)
 exact AY (Dz rfl rfl) (fun w f hM=>⟨s2,f,(by rw[h9];rfl),⟨(fun s' h=>by rw[h9] at h;cases h <;> rfl),hsn2⟩,hM.exm,(fun b h=>.inl h),hM.res,trivial⟩)
 replace h6:=Gn h6
 exact go CG 8 [] (And.intro ⟨oM,oM⟩<|fun _=>Eb ((i+1,r,s2)) (show r.len<r.len+1 from Nat.lt_succ_self _) ⟨show i+1+r.len=_ by omega,OZ hk h6 hs2,hsn2,hro.2.2,show r.size≤kids.size by have h9:(Nd.cons op2 ln2 co2 tx2 nm2 k2 r).size≤kids.size:=hrs;simp only[Nd.size] at h9;omega⟩ lE (fun w f hM=>⟨_,hM.less (.cons _ sR) sR nE (mR [1])⟩))
 refine go CG 3 [] (fun _=>Hc<|go CG 8 [] (fun _=>?_))
 obtain rfl:r=.nil:=Nd.len0 (by have:=of_decide_eq_false h5;omega)
 have h9:=(V5 (ln:=ln) (co:=co) (nm:=nm) (tx:=tx) (k:=kids) h1).trans (hk.trans (show BU s .nil=some s from rfl))
 exact AY (Dz rfl rfl) (fun w f hM=>⟨s,f,(by rw[h9];rfl),⟨(fun s' h=>by rw[h9] at h;cases h <;> rfl),hsn⟩,hM.exm,(fun b h=>.inl h),hM.res,trivial⟩)
theorem OV:∀n,eI Tryz.prog 118 n
 |0=>fun w f hv m seen h1 h2 h3 op ln co nm tx kids na nc h=>by omega
 |n+1=>fun w f hv m seen h1 h2 h3 op ln co nm tx kids na nc h4 h5 h6=>Wy n (OV n) w f hv m seen h1 h2 h3 op ln co nm tx kids na nc h4 h5 h6
theorem Wj(n:Nat)(ihx:∀ (w:World) (f:Fq) (_:Vl w f) (_:D7 w f) (t:AT) (k:Fo) (a:Option Addr) (c:Nat),GN n t k→Bu w f k a c→BQ Tryz.prog 38 #[fV t a k.len c] w (Ig (Cr (n+1) t k) w f) (IV 41 (Cr (n+1) t k) w f))(w:World)(f:Fq)(hv:Vl w f)(hJ:D7 w f)(t:AT)(k:Fo)(ka:Option Addr)(kc:Nat)(hp:GN n t k)(hL:Bu w f k ka kc) :
  BQ Tryz.prog 94 #[fV t ka k.len kc] w (Ig (H6 (n+1) (Cr (n+1)) t k) w f) (IV 41 (H6 (n+1) (Cr (n+1)) t k) w f):=by
 refine NT (X:=X0 w f) (H:=[]) (R:=[]) (B:=[]) (Fs:=[fun w f=>Bu w f k ka kc,fun w f=>D7 w f]) (f:=f) Tryz.func94 rfl rfl rfl (C7 hv ⟨hL,hJ,trivial⟩ ⟨Bu.mono,D7.mono,trivial⟩)<|go CG 7 [] (fun b1=>fun b2=>fun _=>?_)
 have hall:=aE hp
 rcases Fo.two k with ⟨p,pk,b,bk,rfl⟩|hne
 refine B4 (fun w f=>A9 w f ka 0 (.cons p pk (.cons b bk .nil))) (fun w f hM=>Bu.at hM.f0) A9.mono<|CB (α:=Nat×Nat×Option Addr×Nat) (fun x=>ka=some ⟨x.1,x.2.1,none⟩) (fun x=>[⟨x.1,x.2.1+0*6,JJ p x.2.2.1 pk.len x.2.2.2⟩]) (fun x=>[fun w f=>Bu w f pk x.2.2.1 x.2.2.2,fun w f=>A9 w f ka 1 (.cons b bk .nil)]) (fun w f hM=>let ⟨b,off,ka,kc,h1,h2,h3,h4⟩:=A9.head hM.f0;⟨(b,off,ka,kc),h1,(oE h2),A1.mem ⟨h3,h4,trivial⟩⟩) (fun x=>Af.mem ⟨Bu.mono,A9.mono,trivial⟩) ?_
 rintro⟨eb0,eo0,k0a,k0c⟩ rfl
 refine CB (α:=Nat×Nat×Option Addr×Nat) (fun x=>(some (⟨eb0,eo0,none⟩:Addr))=some ⟨x.1,x.2.1,none⟩) (fun x=>[⟨x.1,x.2.1+1*6,JJ b x.2.2.1 bk.len x.2.2.2⟩]) (fun x=>[fun w f=>Bu w f bk x.2.2.1 x.2.2.2,fun w f=>A9 w f (some (⟨eb0,eo0,none⟩:Addr)) 2 .nil]) (fun w f hM=>let ⟨b,off,ka,kc,h1,h2,h3,h4⟩:=A9.head hM.f1;⟨(b,off,ka,kc),h1,(oE h2),A1.mem ⟨h3,h4,trivial⟩⟩) (fun x=>Af.mem ⟨Bu.mono,A9.mono,trivial⟩) ?_
 rintro⟨eb1,eo1,k1a,k1c⟩ h44
 obtain⟨rfl,rfl⟩:eb0=eb1∧eo0=eo1:=by cases h44;exact⟨rfl,rfl⟩
 refine Dj [0,1] Ap (.rd 0 (.rd 1 (.br 2 (rd [3,4,5,6,7,8] (.br 9 .fin .fin)) .fin))) rfl kR<|AA CG 2 [1,1] (y<|y<|fun _=>Ag rfl ?_ Ai)
 refine Dy rfl rfl (eC Hz rfl rfl) (fun w f hM=>C3 _ t _)<|go CG 1 [] (fun _=>Ax [0,1] rfl<|AA CG 1 [] (fun _=>Kk 7 rfl (fun h1=>?_) (fun h1=>?_)))
 refine AA CG 5 [1] (y<|fun _=>Ag rfl ?_ Ai)
 refine Ba rfl rfl (eC AM rfl rfl) (fun w2 f2 he hE=>⟨rfl,_,f2,rfl,(by simp[Fo.len] at he),hE⟩) fun hn1=>go CG 1 [] (fun _=>Ax [0,1] rfl<|B3<|go CG 7 [1,101,0] (y<|And.intro (by simp only[Fo.len];omega)<|y2<|fun _=>?_))
 refine JY rfl rfl (eC QD rfl rfl) (fun w f hM=>O5 n w f hM.vl hM.f6 p pk _ _ hall.1 hM.f2) (fun _=>⟨AK.mono,trivial⟩) (fun e w2 f2 he hE=>⟨rfl,e,f2,rfl,(by simp[H6,SP.need,A3,he,h1,hn1]),hE⟩) ?_
 rintro⟨nd1,and1,cnd1⟩ hnd1
 dsimp only at hnd1 ⊢
 refine go CG 5 [0] (fun b3=>y<|fun _=>Dj [0,1,2] Ap (rd [0,1,2,3,4] (.br 5 (.br 6 (.br 7 .fin .fin) .fin) .fin)) rfl kR<|AA CG 5 [2,101,0,0] (y<|And.intro (by simp only[Fo.len];omega)<|y2<|y<|fun _=>Ag rfl ?_ Ai))
 refine pF (K:=CE) rfl rfl fun m=>go CG 1 [] (fun _=>Ax [0,1,2] rfl<|Ag rfl ?_ Ai)
 refine bG (α:=List (List UInt8)) (val:=fun _=>.bool (BU [] nd1.one).isSome) (q:=fun _=>True) (MI':=fun _ b=>b=m) (I':=fun s=>Kq m s) (F':=fun _=>[]) (XX:=fun _ _=>False) rfl rfl (eC Qo rfl rfl) (fun w f hM=>((OV (nd1.kids.size+1) w f hM.vl m [] hM.res.2 (hM.mi m (.inr rfl)).2.1 List.nodup_nil nd1.op nd1.ln nd1.co nd1.nm nd1.tx nd1.kids and1 cnd1 (Nat.lt_succ_self _) (Yk n p pk nd1 hall.1 hnd1) hM.f0).mono fun v w2 ⟨x,f2,h1,h2,h3,h4,h5,h6⟩=>⟨x,f2,h1,trivial,h3.mono (fun b hb=>.inr hb),(fun b hb=>(h4 b hb).imp .inr id),h5,h6⟩).retP) (fun _=>JD) (fun _=>trivial) (fun _ _ _ _ _ h=>h.elim) ?_
 rintro s1 -
 refine go CG 1 [] (fun _=>Ax [0,1,2] rfl<|Ag rfl ?_ Ai)
 refine Ba rfl rfl (eC AM rfl rfl) (fun w2 f2 he hE=>⟨rfl,_,f2,rfl,(by simp[H6,SP.need,A3,he,h1,hn1,hnd1]),hE⟩) fun hn2=>go CG 1 [] (fun _=>Ax [0,1,2] rfl<|B3<|go CG 2 [] (fun _=>Dj [0,2] Ap (rd [0,1,2,3,4,5] (.br 6 (.br 7 (.br 8 (.br 9 .fin .fin) .fin) .fin) .fin)) rfl kR<|AA CG 6 [1,0,1,100,0] (y<|y<|y<|And.intro (by simp only[Fo.len];omega)<|y2<|fun _=>Ag rfl ?_ Ai)))
 refine JY rfl rfl (eC D1 rfl rfl) (fun w f hM=>ihx w f hM.vl hM.f7 b bk _ _ hall.2.1 hM.f1) (fun _=>⟨AK.mono,trivial⟩) (fun e w2 f2 he hE=>⟨rfl,e,f2,rfl,(by simp[H6,SP.need,A3,he,h1,hn1,hn2,hnd1]),hE⟩) ?_
 rintro⟨nd2,and2,cnd2⟩ hnd2
 dsimp only at hnd2 ⊢
 refine go CG 1 [] (fun _=>Ax [0,2] rfl<|Ag rfl ?_ Ai)
 refine go CG 2 [] (fun b4=>fun _=>Ax [1,3] rfl<|Ag rfl ?_ Ai)
 refine Dl 0 rfl rfl<|B4 (fun w f=>AK w f (nd1.cons (nd2.one)) (some ⟨b4,0,none⟩) 2) (fun w f hM=>Ce.toF (Ce.cons' hM.f1 (Ce.cons' hM.f0 (show Ce _ _ .nil [] from rfl))) hM.b0 (Nat.le_refl _)) AK.mono<|Dy rfl rfl (eC Bn rfl rfl) (fun w f hM=>AE _ t _ _ _ _ _ _)<|go CG 1 [] (fun _=>Bh [0,2] Fu rfl (fun _ h=>.tail _ h)<|Ag rfl ?_ Ai)
 exact go CG 2 [1] (y<|fun _=>Bh [0,2] Fu rfl (fun _ h=>.tail _ h)<|B3<|go CG 2 [] (fun _=>AY (fun w f hM=>AI rfl (Ac rfl Bc hM.k1 rfl)) (fun w f hM=>⟨(⟨18,t.ln,t.co,[],0,(nd1.cons (nd2.one))⟩,(some ⟨b4,0,none⟩),2),f,rfl,(by simp[H6,SP.need,A3,h1,hn1,hn2,hnd1,hnd2]),hM.exm,⟨hM.f0,trivial⟩⟩)))
 refine AA CG 5 [] (fun _=>Ag rfl ?_ Ai)
 refine Ba rfl rfl (eC AM rfl rfl) (fun w2 f2 he hE=>⟨rfl,_,f2,rfl,(by simp[H6,SP.need,h1]),hE⟩) fun hn3=>?_
 cases hn3
 refine Dj [0,1] Ap (.rd 0 (.rd 1 (.br 2 (rd [3,4,5,6,7,8] (.br 9 .fin .fin)) .fin))) rfl kR<|AA CG 2 [1,1] (y<|y<|fun _=>Ag rfl ?_ Ai)
 refine Dy rfl rfl (eC Hz rfl rfl) (fun w f hM=>C3 _ t _)<|go CG 1 [] (fun _=>Ax [0,1] rfl<|AA CG 1 [] (fun _=>Kk 7 rfl (fun h2=>?_) (fun h2=>?_)))
 refine AA CG 5 [1] (y<|fun _=>Ag rfl ?_ Ai)
 exact Ba rfl rfl (eC AM rfl rfl) (fun w2 f2 he hE=>⟨rfl,_,f2,rfl,(by exact V1 hne),hE⟩) fun hn4=>absurd (by simp at hn4;omega) hne
 refine AA CG 5 [] (fun _=>Ag rfl ?_ Ai)
 refine Ba rfl rfl (eC AM rfl rfl) (fun w2 f2 he hE=>⟨rfl,_,f2,rfl,(by exact V1 hne),hE⟩) fun hn5=>?_
 cases hn5
theorem LW:∀n,∀(w:World)(f:Fq)(_:Vl w f)(_:D7 w f)(t:AT)(k:Fo)(a:Option Addr)(c:Nat),GN n t k→Bu w f k a c→BQ Tryz.prog 38 #[fV t a k.len c] w (Ig (Cr (n+1) t k) w f) (IV 41 (Cr (n+1) t k) w f)
 |0=>Rq 0 (fun _ hq=>by cases hq) (fun _ hq=>by cases hq)
 |n+1=>Rq (n+1) (fun n' h=>by cases h;exact LW n) (fun n' h=>by cases h;exact Wj n (LW n))
def uI:Ea:=⟨[(81,0,0),(79,3,4),(81,1,5)],[(43,81,6),(23,54,6)],[],[],[(81,true,6),(9,false,1),(54,true,6),(43,false,1)],[(54,[.int .i64 0,.int .i64 0,.int .i64 0,.string ⟨#[]⟩,.int .i64 0,.slice none 0 0]),(81,[.int .i64 0,.int .i64 0,.int .i64 0,.int .i64 0,.string ⟨#[]⟩,.slice none 0 0])],[],[]⟩
theorem Bv:uI.Ok Tryz.prog:=⟨(And.intro I5 (And.intro IA (And.intro IL trivial))),(And.intro Gk (And.intro EI trivial)),trivial,trivial,(And.intro Lf (And.intro Hx (And.intro Bc (And.intro Oi trivial)))),(And.intro G5 (And.intro O4 trivial)),trivial,trivial⟩
theorem Sj(n:Nat)(ih:∀n',n=n'+1→∀ (w:World) (f:Fq) (_:Vl w f) (_:D7 w f) (t:AT) (k:Fo) (a:Option Addr) (c:Nat),GN n' t k→Bu w f k a c→BQ Tryz.prog 37 #[fV t a k.len c] w (Ig (DL (n'+1) t k) w f) (IV 41 (DL (n'+1) t k) w f))(w:World)(f:Fq)(hv:Vl w f)(hJ:D7 w f)(t:AT)(k:Fo)(ka:Option Addr)(kc:Nat)(hp:GN n t k)(hL:Bu w f k ka kc) :
  BQ Tryz.prog 37 #[fV t ka k.len kc] w (Ig (DL (n+1) t k) w f) (IV 41 (DL (n+1) t k) w f):=by
 refine NT (X:=X0 w f) (H:=[]) (R:=[]) (B:=[]) (Fs:=[fun w f=>Bu w f k ka kc,fun w f=>D7 w f]) (f:=f) Tryz.func37 rfl rfl rfl (C7 hv ⟨hL,hJ,trivial⟩ ⟨Bu.mono,D7.mono,trivial⟩)<|go Bv 10 [1] (fun b1=>fun b2=>y<|fun _=>Dy rfl rfl (eC Hz rfl rfl) (fun w f hM=>C3 _ t _)<|go Bv 3 [] (fun _=>AZ 11 rfl rfl (fun h1=>?_) (fun h1=>?_)))
 replace h1:=FL h1
 refine go Bv 5 [1] (y<|fun _=>Dy rfl rfl (eC XK rfl rfl) (fun w f hM=>JG _ t _ hp.1.1)<|go Bv 2 [] (fun _=>AZ 13 rfl rfl (fun h2=>?_) (fun h2=>?_)))
 exact go Bv 7 [1,1] (y<|y<|fun _=>Dy rfl rfl (eC Bn rfl rfl) (fun w f hM=>AE _ t _ _ _ _ _ _)<|go Bv 6 [0] (y<|fun _=>AY (fun w f hM=>AI rfl (Ac rfl Bc hM.k0 rfl)) (fun w f hM=>⟨(⟨31,t.ln,t.co,t.tx,0,.nil⟩,none,0),f,rfl,(by unfold DL;simp[SP.need,A3,h1,h2]),hM.exm,⟨⟨Nat.zero_le _,.inl rfl⟩,trivial⟩⟩)))
 refine go Bv 4 [] (fun _=>Dj [0,1] Ap (.rd 0 (.rd 1 (.br 2 (.br 3 .fin .fin) .fin))) rfl kR<|AA Bv 2 [1,1] (y<|y<|fun _=>Ag rfl ?_ Ai))
 refine Dy rfl rfl (eC To rfl rfl) (fun w f hM=>Gq _ (D7.gl hM.f1) t _ hp.1.1 hp.1.2)<|go Bv 1 [] (fun _=>Ax [0,1] rfl<|Ag rfl ?_ Ai)
 exact Ba rfl rfl (eC AM rfl rfl) (fun w2 f2 he hE=>⟨rfl,_,f2,rfl,(by unfold DL;simp[SP.need,A3,he,h1,h2]),hE⟩) fun hn1=>go Bv 1 [] (fun _=>Ax [0,1] rfl<|B3<|go Bv 7 [1,1] (y<|y<|fun _=>Dy rfl rfl (eC Bn rfl rfl) (fun w f hM=>AE _ t _ _ _ _ _ _)<|go Bv 5 [0] (y<|fun _=>AY (fun w f hM=>AI rfl (Ac rfl Bc hM.k0 rfl)) (fun w f hM=>⟨(⟨32,t.ln,t.co,t.tx,0,.nil⟩,none,0),f,rfl,(by unfold DL;simp[SP.need,A3,h1,h2,hn1]),hM.exm,⟨⟨Nat.zero_le _,.inl rfl⟩,trivial⟩⟩))))
 replace h1:=Gn h1
 refine go Bv 10 [1,1] (y<|y<|fun _=>Ba rfl rfl (eC AM rfl rfl) (fun w2 f2 he hE=>⟨rfl,_,f2,rfl,(by obtain rfl:k=.nil:=Fo.len0 (by have:=of_decide_eq_false he;omega);unfold DL;simp[h1]),hE⟩) fun hn2=>go Bv 3 [] (fun _=>?_))
 obtain⟨h,hk,r,rfl⟩:=Fo.cases1 k (by have:=of_decide_eq_true hn2;omega)
 have hp0:=hp
 obtain⟨hto,hko,hkl,hdp⟩:=hp
 have hkl2:r.len+1≤100000:=hkl
 obtain⟨n,rfl⟩:∃q,n=q+1:=by cases n with|zero=>exact absurd hdp (by simp[Fo.deep])|succ q=>exact⟨q,rfl⟩
 refine B4 (fun w f=>Bu w f r (D4 ka kc 6) (kc-1)) (fun w f hM=>A9.rest hM.f0) Bu.mono<|B4 (fun w f=>A9 w f ka 0 (.cons h hk r)) (fun w f hM=>Bu.at hM.f1) A9.mono<|CB (α:=Nat×Nat×Option Addr×Nat) (fun x=>ka=some ⟨x.1,x.2.1,none⟩) (fun x=>[⟨x.1,x.2.1+0*6,JJ h x.2.2.1 hk.len x.2.2.2⟩]) (fun x=>[fun w f=>Bu w f hk x.2.2.1 x.2.2.2,fun w f=>A9 w f ka 1 r]) (fun w f hM=>let ⟨b,off,ka,kc,h1,h2,h3,h4⟩:=A9.head hM.f0;⟨(b,off,ka,kc),h1,(oE h2),A1.mem ⟨h3,h4,trivial⟩⟩) (fun x=>Af.mem ⟨Bu.mono,A9.mono,trivial⟩) ?_
 rintro⟨eb,eo,hka,hkc⟩ rfl
 refine Dj [0,1] Ap (rd [0,1,2,3,4,5,6] (.br 7 (.br 8 (.rd 9 .fin) .fin) .fin)) rfl kR<|AA Bv 6 [1,100,0,1] (y<|And.intro (by first|(simp only[Fo.len];omega)|(dsimp only;omega)|omega)<|y2<|y<|fun _=>HN rfl rfl rfl (fun w hK=>Hg rfl rfl rfl Gk)<|Ag rfl ?_ Ai)
 refine go Bv 2 [] (fun b3=>fun _=>Ax [1,2] rfl<|Ag rfl ?_ Ai)
 refine go Bv 2 [0] (y<|fun _=>Ax [1,2] rfl<|AA Bv 1 [] (fun _=>B3<|go Bv 13 [0] (y<|fun _=>Dy rfl rfl (eC KC rfl rfl) (fun w f hM=>DC _ h _ _)<|go Bv 3 [] (fun _=>AZ 51 rfl rfl (fun h3=>?_) (fun h3=>?_)))))
 refine go Bv 6 [2] (y<|fun _=>Ba rfl rfl (eC AM rfl rfl) (fun w2 f2 he hE=>⟨rfl,_,f2,rfl,(by unfold DL;simp[SP.need,A3,he,h1,hn2,h3]),hE⟩) fun hn3=>go Bv 5 [] (fun _=>?_))
 refine JY rfl rfl (eC Dv rfl rfl) (fun w f hM=>BX 37 KI (DL (n+1)) (GN n) (fun w f hv hJ t k a c hd hT=>ih n rfl w f hv hJ t k a c hd hT) w f hM.vl hM.f5 r _ _ (D8 hp0).2 oM hM.f3) (fun _=>⟨AK.mono,trivial⟩) (fun e w2 f2 he hE=>⟨rfl,e,f2,rfl,(by unfold DL;simp[SP.need,A3,he,h1,hn2,h3,hn3]),hE⟩) ?_
 rintro⟨⟨nds1,xnds1⟩,ands1,cnds1⟩ hnds1
 dsimp only at hnds1 ⊢
 refine go Bv 4 [] (fun _=>?_)
 have hnl:=Ek hnds1
 have hge:2≤r.len:=by have:=of_decide_eq_true hn3;omega
 obtain⟨q,hq⟩:=Nd.getN (r.len-1) nds1 oM
 refine CB (α:=Nat×Nat×Option Addr×Nat) (fun x=>ands1=some ⟨x.1,x.2.1,none⟩) (fun x=>[⟨x.1,x.2.1+((r.len:Int)-1).toNat*6,F9 q.op q.ln q.co q.tx q.nm x.2.2.1 q.kids.len x.2.2.2⟩]) (fun x=>[fun w f=>AK w f q.kids x.2.2.1 x.2.2.2]) (fun w f hM=>let ⟨b,off,ka,kc,h1,h2,h3⟩:=AK.elem hM.f0 hq;⟨(b,off,ka,kc),h1,(fun e he=>by cases he with|head=>(rw[show ((r.len:Int)-1).toNat=r.len-1 by omega];exact h2)|tail _ h=>cases h),A1.mem ⟨h3,trivial⟩⟩) (fun x=>Af.mem ⟨AK.mono,trivial⟩) ?_
 rintro⟨eb5,eo5,qa,qc⟩ rfl
 refine go Bv 19 [100,0,0] (And.intro ⟨oM,oM⟩<|And.intro (by first|(simp only[Fo.len];omega)|(dsimp only;omega)|omega)<|y2<|fun b4=>y<|And.intro ⟨oM,oM⟩<|fun _=>?_)
 refine H9 (α:=Nat×N×Option Addr×Nat) (fun x=>x.1) (fun x=>x.1+1≤nds1.len∧Gx t (nds1.drop x.1)=some x.2.1) (fun x=>(E5 1 (.pointer (some ⟨b1,0,none⟩)) 2 (.pointer (some ⟨b2,0,none⟩)) 6 (.slice (some (⟨eb5,eo5,none⟩:Addr)) nds1.len cnds1) 7 (.pointer (some ⟨b4,0,none⟩)) 8 (.int .i64 ((x.1:Int)-1)))) (fun x=>X0 w f) (fun x=>[⟨b4,[.int .i64 x.2.1.op,.int .i64 x.2.1.ln,.int .i64 x.2.1.co,S x.2.1.tx,.int .i64 x.2.1.nm,.slice x.2.2.1 x.2.1.kids.len x.2.2.2],54,true⟩,⟨b2,[.int .i64 0,.int .i64 0,.int .i64 0,.string ⟨#[]⟩,.int .i64 0,.slice none 0 0],54,true⟩,⟨b1,[.int .i64 t.k,.int .i64 t.ln,.int .i64 t.co,.int .i64 t.nm,S t.tx,.slice (some (⟨eb,eo,none⟩:Addr)) (Fo.cons h hk r).len kc],81,true⟩]) (fun x=>[]) (fun x=>[]) (fun x=>[fun w f=>AK w f nds1 (some (⟨eb5,eo5,none⟩:Addr)) cnds1,fun w f=>AK w f x.2.1.kids x.2.2.1 x.2.2.2]) (r.len-1,q,qa,qc) ⟨show r.len-1+1≤nds1.len by omega,RE hq oM⟩ (tK rfl rfl rfl rfl (Eq.trans (b:=some (Value.int .i64 ((r.len:Int)-2))) rfl (by dsimp only;rw[show ((r.len:Int)-2)=((r.len-1:Nat):Int)-1 by omega]))) (fun w f hM=>hM.less (sK (sD (sK (sK sZ)))) sR nE (mR [1,0])) ?_
 rintro⟨j,o,oa,oc⟩ ⟨hj,har⟩
 dsimp only at hj har ⊢
 refine go Bv 7 [] (fun _=>AZ 68 rfl rfl (fun h4=>?_) (fun h4=>?_))
 refine go Bv 5 [] (fun _=>?_)
 obtain⟨j,rfl⟩:∃q,j=q+1:=⟨j-1,by have:=of_decide_eq_true h4;omega⟩
 obtain⟨q2,hq2⟩:=Nd.getN j nds1 oM
 refine CB (α:=Nat×Nat×Option Addr×Nat) (fun x=>(some (⟨eb5,eo5,none⟩:Addr))=some ⟨x.1,x.2.1,none⟩) (fun x=>[⟨x.1,x.2.1+(((j+1:Nat):Int)-1).toNat*6,F9 q2.op q2.ln q2.co q2.tx q2.nm x.2.2.1 q2.kids.len x.2.2.2⟩]) (fun x=>[fun w f=>AK w f q2.kids x.2.2.1 x.2.2.2]) (fun w f hM=>let ⟨b,off,ka,kc,h1,h2,h3⟩:=AK.elem hM.f0 hq2;⟨(b,off,ka,kc),h1,(fun e he=>by cases he with|head=>(rw[show (((j+1:Nat):Int)-1).toNat=j by omega];exact h2)|tail _ h=>cases h),A1.mem ⟨h3,trivial⟩⟩) (fun x=>Af.mem ⟨AK.mono,trivial⟩) ?_
 rintro⟨eb6,eo6,qa2,qc2⟩ h44
 obtain⟨rfl,rfl⟩:eb5=eb6∧eo5=eo6:=by cases h44;exact⟨rfl,rfl⟩
 refine Dj [1,2] Ap (rd [0,1,2,3,4] (.br 5 (.br 6 (.br 7 (.br 8 .fin .fin) .fin) .fin) .fin)) rfl kR<|AA Bv 5 [1,100,0] (y<|And.intro (by first|(simp only[Fo.len];omega)|(dsimp only;omega)|omega)<|y2<|fun _=>Ag rfl ?_ Ai)
 refine go Bv 2 [0] (y<|fun _=>Ax [1,2] rfl<|Ag rfl ?_ Ai)
 refine go Bv 2 [] (fun b5=>fun _=>Ax [2,3] rfl<|Ag rfl ?_ Ai)
 refine Dl 0 rfl rfl<|B4 (fun w f=>AK w f (q2.cons (o.one)) (some ⟨b5,0,none⟩) 2) (fun w f hM=>Ce.toF (Ce.cons' hM.f0 (Ce.cons' hM.f2 (show Ce _ _ .nil [] from rfl))) hM.b0 (Nat.le_refl _)) AK.mono<|Dy rfl rfl (eC Bn rfl rfl) (fun w f hM=>AE _ t _ _ _ _ _ _)<|go Bv 1 [] (fun _=>Bh [1,2] Fu rfl (fun _ h=>.tail _ h)<|Ag rfl ?_ Ai)
 exact go Bv 2 [0] (y<|fun _=>Bh [1,2] Fu rfl (fun _ h=>.tail _ h)<|B3<|go Bv 7 [] (And.intro ⟨oM,oM⟩<|fun _=>Eb ((j,A3 t 32 [45,62] (q2.cons o.one),(some ⟨b5,0,none⟩),2)) (Nat.lt_succ_self _) ⟨show j+1≤nds1.len by omega,Sq hq2 har⟩ (tK rfl rfl rfl rfl (Eq.trans (b:=some (Value.int .i64 ((((j+1:Nat):Int)-1)-1))) rfl (by dsimp only;rw[show ((((j+1:Nat):Int)-1)-1)=(j:Int)-1 by omega]))) (fun w f hM=>⟨_,hM.less (sK (sK (sK sZ))) sR nE (mR [2,0])⟩)))
 refine go Bv 3 [] (fun _=>Hc<|go Bv 11 [0,1] (y<|y<|fun _=>?_))
 obtain rfl:j=0:=by have:=of_decide_eq_false h4;omega
 have har2:Gx t nds1=some o:=har
 exact AY (fun w f hM=>AI rfl (Ac rfl Bc hM.k1 rfl)) (fun w f hM=>⟨(o,oa,oc),f,rfl,(by unfold DL;simp[SP.need,h1,hn2,h3,hn3,hnds1,har2]),hM.exm,⟨hM.f1,trivial⟩⟩)
 refine go Bv 4 [0] (y<|fun _=>Dy rfl rfl (eC KC rfl rfl) (fun w f hM=>DC _ h _ _)<|go Bv 3 [] (fun _=>AZ 80 rfl rfl (fun h5=>?_) (fun h5=>?_)))
 refine go Bv 1 [] (fun _=>Dj [0,1,2] Ap (.rd 0 (.rd 1 (.br 2 (.br 3 .fin .fin) .fin))) rfl kR<|AA Bv 2 [2] (y<|fun _=>Ag rfl ?_ Ai))
 refine Dy rfl rfl (eC Iy rfl rfl) (fun w f hM=>Dp _ _ _ _)<|go Bv 1 [] (fun _=>Ax [0,1,2] rfl<|Ag rfl ?_ Ai)
 refine Ba rfl rfl (eC AM rfl rfl) (fun w2 f2 he hE=>⟨rfl,_,f2,rfl,(by unfold DL;simp[SP.need,A3,he,h1,hn2,h3,h5]),hE⟩) fun hn4=>go Bv 1 [] (fun _=>Ax [0,1,2] rfl<|B3<|go Bv 3 [] (fun _=>Dj [0,2] Ap (rd [0,1,2,3,4] (.br 5 (.br 6 (.br 7 .fin .fin) .fin) .fin)) rfl kR<|AA Bv 5 [1,0] (y<|y<|fun _=>Ag rfl ?_ Ai)))
 refine JY rfl rfl (eC Dv rfl rfl) (fun w f hM=>BX 37 KI (DL (n+1)) (GN n) (fun w f hv hJ t k a c hd hT=>ih n rfl w f hv hJ t k a c hd hT) w f hM.vl hM.f5 r _ _ (D8 hp0).2 oM hM.f3) (fun _=>⟨AK.mono,trivial⟩) (fun e w2 f2 he hE=>⟨rfl,e,f2,rfl,(by unfold DL;simp[SP.need,A3,he,h1,hn2,h3,h5,hn4]),hE⟩) ?_
 rintro⟨⟨nds3,xnds3⟩,ands3,cnds3⟩ hnds3
 dsimp only at hnds3 ⊢
 refine go Bv 1 [] (fun _=>Ax [0,2] rfl<|Ag rfl ?_ Ai)
 refine Dy rfl rfl (eC Bn rfl rfl) (fun w f hM=>AE _ t _ _ _ _ _ _)<|go Bv 1 [] (fun _=>Ax [0,2] rfl<|Ag rfl ?_ Ai)
 exact go Bv 2 [1] (y<|fun _=>Ax [0,2] rfl<|B3<|go Bv 2 [] (fun _=>AY (fun w f hM=>AI rfl (Ac rfl Bc hM.k1 rfl)) (fun w f hM=>⟨(⟨32,t.ln,t.co,h.tx,0,nds3⟩,ands3,cnds3),f,rfl,(by unfold DL;simp[SP.need,A3,h1,hn2,h3,h5,hn4,hnds3]),hM.exm,⟨hM.f0,trivial⟩⟩)))
 refine go Bv 4 [0] (y<|fun _=>Dy rfl rfl (eC KC rfl rfl) (fun w f hM=>DC _ h _ _)<|go Bv 1 [] (fun _=>AZ 90 rfl rfl (fun h6=>?_) (fun h6=>?_)))
 refine go Bv 11 [2] (y<|fun _=>Ba rfl rfl (eC AM rfl rfl) (fun w2 f2 he hE=>⟨rfl,_,f2,rfl,(by unfold DL;simp[SP.need,A3,he,h1,hn2,h3,h5,h6]),hE⟩) fun hn5=>go Bv 4 [] (fun _=>Dj [0,2] Ap (rd [0,1,2,3,4] (.br 5 (.br 6 (.br 7 .fin .fin) .fin) .fin)) rfl kR<|AA Bv 5 [1,0] (y<|y<|fun _=>Ag rfl ?_ Ai)))
 refine JY rfl rfl (eC Dv rfl rfl) (fun w f hM=>BX 37 KI (DL (n+1)) (GN n) (fun w f hv hJ t k a c hd hT=>ih n rfl w f hv hJ t k a c hd hT) w f hM.vl hM.f5 r _ _ (D8 hp0).2 oM hM.f3) (fun _=>⟨AK.mono,trivial⟩) (fun e w2 f2 he hE=>⟨rfl,e,f2,rfl,(by unfold DL;simp[SP.need,A3,he,h1,hn2,h3,h5,h6,hn5]),hE⟩) ?_
 rintro⟨⟨nds4,xnds4⟩,ands4,cnds4⟩ hnds4
 dsimp only at hnds4 ⊢
 refine go Bv 1 [] (fun _=>Ax [0,2] rfl<|Ag rfl ?_ Ai)
 refine Dy rfl rfl (eC Bn rfl rfl) (fun w f hM=>AE _ t _ _ _ _ _ _)<|go Bv 1 [] (fun _=>Ax [0,2] rfl<|Ag rfl ?_ Ai)
 exact go Bv 2 [1] (y<|fun _=>Ax [0,2] rfl<|B3<|go Bv 2 [] (fun _=>AY (fun w f hM=>AI rfl (Ac rfl Bc hM.k1 rfl)) (fun w f hM=>⟨(⟨32,t.ln,t.co,h.tx,0,nds4⟩,ands4,cnds4),f,rfl,(by unfold DL;simp[SP.need,A3,h1,hn2,h3,h5,h6,hn5,hnds4]),hM.exm,⟨hM.f0,trivial⟩⟩)))
 refine go Bv 1 [0] (y<|fun _=>Dy rfl rfl (eC KC rfl rfl) (fun w f hM=>DC _ h _ _)<|go Bv 4 [] (fun _=>AZ 87 rfl rfl (fun h7=>?_) (fun h7=>?_)))
 refine go Bv 5 [2] (y<|fun _=>Ba rfl rfl (eC AM rfl rfl) (fun w2 f2 he hE=>⟨rfl,_,f2,rfl,(by unfold DL;simp[SP.need,A3,he,h1,hn2,h3,h5,h6,h7]),hE⟩) fun hn6=>go Bv 4 [] (fun _=>Dj [0,2] Ap (rd [0,1,2,3,4] (.br 5 (.br 6 (.br 7 .fin .fin) .fin) .fin)) rfl kR<|AA Bv 5 [1,0] (y<|y<|fun _=>Ag rfl ?_ Ai)))
 refine JY rfl rfl (eC Dv rfl rfl) (fun w f hM=>BX 37 KI (DL (n+1)) (GN n) (fun w f hv hJ t k a c hd hT=>ih n rfl w f hv hJ t k a c hd hT) w f hM.vl hM.f5 r _ _ (D8 hp0).2 oM hM.f3) (fun _=>⟨AK.mono,trivial⟩) (fun e w2 f2 he hE=>⟨rfl,e,f2,rfl,(by unfold DL;simp[SP.need,A3,he,h1,hn2,h3,h5,h6,h7,hn6]),hE⟩) ?_
 rintro⟨⟨nds5,xnds5⟩,ands5,cnds5⟩ hnds5
 dsimp only at hnds5 ⊢
 refine go Bv 1 [] (fun _=>Ax [0,2] rfl<|Ag rfl ?_ Ai)
 refine Dy rfl rfl (eC Bn rfl rfl) (fun w f hM=>AE _ t _ _ _ _ _ _)<|go Bv 1 [] (fun _=>Ax [0,2] rfl<|Ag rfl ?_ Ai)
 exact go Bv 2 [1] (y<|fun _=>Ax [0,2] rfl<|B3<|go Bv 2 [] (fun _=>AY (fun w f hM=>AI rfl (Ac rfl Bc hM.k1 rfl)) (fun w f hM=>⟨(⟨32,t.ln,t.co,h.tx,0,nds5⟩,ands5,cnds5),f,rfl,(by unfold DL;simp[SP.need,A3,h1,hn2,h3,h5,h6,h7,hn6,hnds5]),hM.exm,⟨hM.f0,trivial⟩⟩)))
 refine go Bv 1 [] (fun _=>Dj [0,1,2] Ap (.rd 0 (.rd 1 (.br 2 (.rd 3 (.rd 4 (.br 5 (.rd 6 (.br 7 .fin .fin)) .fin))) .fin))) rfl kR<|AA Bv 2 [2,0] (y<|y<|fun _=>Ag rfl ?_ Ai))
 refine Dy rfl rfl (eC To rfl rfl) (fun w f hM=>Gq _ (D7.gl hM.f5) h _ hko.1.1 hko.1.2)<|go Bv 1 [] (fun _=>Ax [0,1,2] rfl<|AA Bv 1 [] (fun _=>Kk 46 rfl (fun h8=>?_) (fun h8=>?_)))
 refine AA Bv 1 [] (fun _=>Ag rfl ?_ Ai)
 refine Dy rfl rfl (eC Iy rfl rfl) (fun w f hM=>Dp _ _ _ _)<|go Bv 1 [] (fun _=>Ax [0,1,2] rfl<|AA Bv 1 [] (fun _=>Ag rfl ?_ Ai))
 refine Ba rfl rfl (eC AM rfl rfl) (fun w2 f2 he hE=>⟨rfl,_,f2,rfl,(by unfold DL;simp[SP.need,A3,he,h1,hn2,h3,h5,h6,h7,h8]),hE⟩) fun hn7=>go Bv 1 [] (fun _=>Ax [0,1,2] rfl<|B3<|go Bv 3 [] (fun _=>Dj [0,2] Ap (rd [0,1,2,3,4] (.br 5 (.br 6 (.br 7 .fin .fin) .fin) .fin)) rfl kR<|AA Bv 5 [1,0] (y<|y<|fun _=>Ag rfl ?_ Ai)))
 refine JY rfl rfl (eC Dv rfl rfl) (fun w f hM=>BX 37 KI (DL (n+1)) (GN n) (fun w f hv hJ t k a c hd hT=>ih n rfl w f hv hJ t k a c hd hT) w f hM.vl hM.f5 r _ _ (D8 hp0).2 oM hM.f3) (fun _=>⟨AK.mono,trivial⟩) (fun e w2 f2 he hE=>⟨rfl,e,f2,rfl,(by unfold DL;simp[SP.need,A3,he,h1,hn2,h3,h5,h6,h7,h8,hn7]),hE⟩) ?_
 rintro⟨⟨nds6,xnds6⟩,ands6,cnds6⟩ hnds6
 dsimp only at hnds6 ⊢
 refine go Bv 1 [] (fun _=>Ax [0,2] rfl<|Ag rfl ?_ Ai)
 refine Dy rfl rfl (eC Bn rfl rfl) (fun w f hM=>AE _ t _ _ _ _ _ _)<|go Bv 1 [] (fun _=>Ax [0,2] rfl<|Ag rfl ?_ Ai)
 exact go Bv 2 [1] (y<|fun _=>Ax [0,2] rfl<|B3<|go Bv 2 [] (fun _=>AY (fun w f hM=>AI rfl (Ac rfl Bc hM.k1 rfl)) (fun w f hM=>⟨(⟨32,t.ln,t.co,h.tx,0,nds6⟩,ands6,cnds6),f,rfl,(by unfold DL;simp[SP.need,A3,h1,hn2,h3,h5,h6,h7,h8,hn7,hnds6]),hM.exm,⟨hM.f0,trivial⟩⟩)))
 refine AA Bv 1 [] (fun _=>Ag rfl ?_ Ai)
 refine go Bv 2 [] (fun _=>Ax [0,1,2] rfl<|AA Bv 1 [] (fun _=>Ag rfl ?_ Ai))
 refine Ba rfl rfl (eC AM rfl rfl) (fun w2 f2 he hE=>⟨rfl,_,f2,rfl,(by unfold DL;simp[SP.need,A3,he,h1,hn2,h3,h5,h6,h7,h8]),hE⟩) fun hn8=>?_
 cases hn8
theorem LP:∀n,∀(w:World)(f:Fq)(_:Vl w f)(_:D7 w f)(t:AT)(k:Fo)(a:Option Addr)(c:Nat),GN n t k→Bu w f k a c→BQ Tryz.prog 37 #[fV t a k.len c] w (Ig (DL (n+1) t k) w f) (IV 41 (DL (n+1) t k) w f)
 |0=>Sj 0 (fun _ hq=>by cases hq)
 |n+1=>Sj (n+1) (fun n' h=>by cases h;exact LP n)
def vA:Ea:=⟨[(81,1,5),(81,0,0),(79,0,0),(79,3,4)],[(43,81,6)],[],[],[(81,true,6),(43,false,1),(3,false,1),(9,false,1),(54,true,6)],[(54,[.int .i64 0,.int .i64 0,.int .i64 0,.string ⟨#[]⟩,.int .i64 0,.slice none 0 0])],[],[]⟩
theorem H5:vA.Ok Tryz.prog:=⟨(And.intro IL (And.intro I5 (And.intro PJ (And.intro IA trivial)))),(And.intro Gk trivial),trivial,trivial,(And.intro Lf (And.intro Oi (And.intro CZ (And.intro Hx (And.intro Bc trivial))))),(And.intro G5 trivial),trivial,trivial⟩
theorem Tj(n:Nat)(w:World)(f:Fq)(hv:Vl w f)(hJ:D7 w f)(t:AT)(k:Fo)(ka:Option Addr)(kc:Nat)(hp:GN (n+1) t k)(hL:Bu w f k ka kc) :
  BQ Tryz.prog 35 #[fV t ka k.len kc] w (Ig (Ih (n+1) t k) w f) (IV 41 (Ih (n+1) t k) w f):=by
 refine NT (X:=X0 w f) (H:=[]) (R:=[]) (B:=[]) (Fs:=[fun w f=>Bu w f k ka kc,fun w f=>D7 w f]) (f:=f) Tryz.func35 rfl rfl rfl (C7 hv ⟨hL,hJ,trivial⟩ ⟨Bu.mono,D7.mono,trivial⟩)<|go H5 7 [] (fun b1=>fun b2=>fun _=>?_)
 rcases Fo.nc k with rfl|⟨h,hk,r,rfl⟩
 refine Dj [0,1] Ap (.rd 0 (.rd 1 (.br 2 (rd [3,4,5,6,7,8,9,10,11,12,13,14,15,16,17,18,19,20,21,22,23] (.br 24 .fin .fin)) .fin))) rfl kR<|AA H5 2 [1,1] (y<|y<|fun _=>Ag rfl ?_ Ai)
 refine Dy rfl rfl (eC Hz rfl rfl) (fun w f hM=>C3 _ t _)<|go H5 1 [] (fun _=>Ax [0,1] rfl<|AA H5 1 [] (fun _=>Kk 6 rfl (fun h1=>?_) (fun h1=>?_)))
 refine AA H5 6 [1] (y<|fun _=>Kk 12 rfl (fun h2=>?_) (fun h2=>?_))
 simp[Fo.len] at h2
 refine AA H5 14 [] (fun _=>Ag rfl ?_ Ai)
 refine Ba rfl rfl (eC AM rfl rfl) (fun w2 f2 he hE=>⟨rfl,_,f2,rfl,(by simp[Ih]),hE⟩) fun hn1=>?_
 cases hn1
 refine AA H5 20 [] (fun _=>Ag rfl ?_ Ai)
 refine Ba rfl rfl (eC AM rfl rfl) (fun w2 f2 he hE=>⟨rfl,_,f2,rfl,(by simp[Ih]),hE⟩) fun hn2=>?_
 cases hn2
 have hkl:=hp.2.2.1
 have hkl2:r.len+1≤100000:=hkl
 refine B4 (fun w f=>Bu w f r (D4 ka kc 6) (kc-1)) (fun w f hM=>A9.rest hM.f0) Bu.mono<|B4 (fun w f=>A9 w f ka 0 (.cons h hk r)) (fun w f hM=>Bu.at hM.f1) A9.mono<|CB (α:=Nat×Nat×Option Addr×Nat) (fun x=>ka=some ⟨x.1,x.2.1,none⟩) (fun x=>[⟨x.1,x.2.1+0*6,JJ h x.2.2.1 hk.len x.2.2.2⟩]) (fun x=>[fun w f=>Bu w f hk x.2.2.1 x.2.2.2,fun w f=>A9 w f ka 1 r]) (fun w f hM=>let ⟨b,off,ka,kc,h1,h2,h3,h4⟩:=A9.head hM.f0;⟨(b,off,ka,kc),h1,(oE h2),A1.mem ⟨h3,h4,trivial⟩⟩) (fun x=>Af.mem ⟨Bu.mono,A9.mono,trivial⟩) ?_
 rintro⟨eb,eo,hka,hkc⟩ rfl
 refine Dj [0,1] Ap (.rd 0 (.rd 1 (.br 2 (rd [3,4,5,6,7,8,9,10,11,12,13,14,15,16,17,18,19,20,21,22,23] (.br 24 .fin .fin)) .fin))) rfl kR<|AA H5 2 [1,1] (y<|y<|fun _=>Ag rfl ?_ Ai)
 refine Dy rfl rfl (eC Hz rfl rfl) (fun w f hM=>C3 _ t _)<|go H5 1 [] (fun _=>Ax [0,1] rfl<|AA H5 1 [] (fun _=>Kk 6 rfl (fun h3=>?_) (fun h3=>?_)))
 refine AA H5 6 [1] (y<|fun _=>Kk 12 rfl (fun h4=>?_) (fun h4=>?_))
 refine AA H5 9 [1,100,0] (y<|And.intro (by first|(simp only[Fo.len];omega)|omega)<|y2<|fun _=>Kk 21 rfl (fun h5=>?_) (fun h5=>?_))
 refine AA H5 5 [1] (y<|fun _=>Ag rfl ?_ Ai)
 refine Ba rfl rfl (eC AM rfl rfl) (fun w2 f2 he hE=>⟨rfl,_,f2,rfl,(by simp[Ih,SP.need,A3,he,h3,h4,h5]),hE⟩) fun hn3=>go H5 1 [] (fun _=>Ax [0,1] rfl<|B3<|go H5 2 [] (fun _=>Dj [1] Ap (rd [0,1,2,3,4,5,6,7,8,9] (.br 10 (.br 11 (.br 12 .fin .fin) .fin) .fin)) rfl kR<|AA H5 9 [0,0,100,4,0] (y<|y<|And.intro (by first|(simp only[Fo.len];omega)|omega)<|y2<|y<|fun _=>HN rfl rfl rfl (fun w hK=>Hg rfl rfl rfl Gk)<|Ag rfl ?_ Ai)))
 refine JY rfl rfl (eC Dv rfl rfl) (fun w f hM=>BX 37 KI (DL (n+1)) (GN n) (fun w f hv hJ t k a c hd hT=>LP n w f hv hJ t k a c hd hT) w f hM.vl hM.f5 r _ _ (D8 hp).2 oM hM.f3) (fun _=>⟨AK.mono,trivial⟩) (fun e w2 f2 he hE=>⟨rfl,e,f2,rfl,(by simp[Ih,SP.need,A3,he,h3,h4,h5,hn3]),hE⟩) ?_
 rintro⟨⟨nds1,xnds1⟩,ands1,cnds1⟩ hnds1
 dsimp only at hnds1 ⊢
 refine go H5 1 [] (fun _=>Ax [1] rfl<|Ag rfl ?_ Ai)
 refine Dy rfl rfl (eC Bn rfl rfl) (fun w f hM=>AE _ t _ _ _ _ _ _)<|go H5 1 [] (fun _=>Ax [1] rfl<|Ag rfl ?_ Ai)
 exact go H5 2 [0] (y<|fun _=>Ax [1] rfl<|B3<|go H5 2 [] (fun _=>AY (fun w f hM=>AI rfl (Ac rfl Bc hM.k0 rfl)) (fun w f hM=>⟨(⟨42,t.ln,t.co,h.tx,0,nds1⟩,ands1,cnds1),f,rfl,(by simp[Ih,SP.need,A3,h3,h4,h5,hn3,hnds1]),hM.exm,⟨hM.f0,trivial⟩⟩)))
 refine AA H5 5 [] (fun _=>Ag rfl ?_ Ai)
 refine Ba rfl rfl (eC AM rfl rfl) (fun w2 f2 he hE=>⟨rfl,_,f2,rfl,(by simp[Ih,SP.need,A3,he,h3,h4,h5]),hE⟩) fun hn4=>?_
 cases hn4
 have h9:=of_decide_eq_false h4;simp only[Fo.len] at h9;omega
 refine AA H5 20 [] (fun _=>Ag rfl ?_ Ai)
 refine Ba rfl rfl (eC AM rfl rfl) (fun w2 f2 he hE=>⟨rfl,_,f2,rfl,(by simp[Ih,SP.need,A3,he,h3]),hE⟩) fun hn5=>?_
 cases hn5
def tN:Ea:=⟨[(81,1,5),(81,0,0),(79,3,4)],[(43,81,6),(23,54,6)],[],[],[(81,true,6),(43,false,1),(9,false,1),(54,true,6)],[(54,[.int .i64 0,.int .i64 0,.int .i64 0,.string ⟨#[]⟩,.int .i64 0,.slice none 0 0]),(81,[.int .i64 0,.int .i64 0,.int .i64 0,.int .i64 0,.string ⟨#[]⟩,.slice none 0 0])],[],[]⟩
theorem AH:tN.Ok Tryz.prog:=⟨(And.intro IL (And.intro I5 (And.intro IA trivial))),(And.intro Gk (And.intro EI trivial)),trivial,trivial,(And.intro Lf (And.intro Oi (And.intro Hx (And.intro Bc trivial)))),(And.intro G5 (And.intro O4 trivial)),trivial,trivial⟩
set_option maxHeartbeats 1000000 in
theorem WH(n:Nat)(w:World)(f:Fq)(hv:Vl w f)(hJ:D7 w f)(t:AT)(k:Fo)(ka:Option Addr)(kc:Nat)(hp:GN (n+1) t k)(hL:Bu w f k ka kc) :
  BQ Tryz.prog 12 #[fV t ka k.len kc] w (Ig (Da (n+1) t k) w f) (IV 41 (Da (n+1) t k) w f):=by
 have ihx:=LW n
 refine NT (X:=X0 w f) (H:=[]) (R:=[]) (B:=[]) (Fs:=[fun w f=>Bu w f k ka kc,fun w f=>D7 w f]) (f:=f) Tryz.func12 rfl rfl rfl (C7 hv ⟨hL,hJ,trivial⟩ ⟨Bu.mono,D7.mono,trivial⟩)<|go AH 7 [] (fun b1=>fun b2=>fun _=>?_)
 rcases Fo.nc k with rfl|⟨h,hk,r,rfl⟩
 refine Dj [0,1] Ap (.rd 0 (.rd 1 (.br 2 (rd [3,4,5,6,7,8,9,10,11,12,13] (.br 14 (.rd 15 (.br 16 .fin .fin)) .fin)) .fin))) rfl kR<|AA AH 2 [1,1] (y<|y<|fun _=>Ag rfl ?_ Ai)
 refine Dy rfl rfl (eC Hz rfl rfl) (fun w f hM=>C3 _ t _)<|go AH 1 [] (fun _=>Ax [0,1] rfl<|AA AH 1 [] (fun _=>Kk 11 rfl (fun h1=>?_) (fun h1=>?_)))
 refine AA AH 6 [1] (y<|fun _=>Kk 17 rfl (fun h2=>?_) (fun h2=>?_))
 simp[Fo.len] at h2
 refine AA AH 4 [] (fun _=>Ag rfl ?_ Ai)
 refine go AH 2 [] (fun _=>Ax [0,1] rfl<|AA AH 1 [] (fun _=>Ag rfl ?_ Ai))
 refine Ba rfl rfl (eC AM rfl rfl) (fun w2 f2 he hE=>⟨rfl,_,f2,rfl,(by simp[Da]),hE⟩) fun hn1=>?_
 cases hn1
 refine AA AH 10 [] (fun _=>Ag rfl ?_ Ai)
 refine go AH 2 [] (fun _=>Ax [0,1] rfl<|AA AH 1 [] (fun _=>Ag rfl ?_ Ai))
 refine Ba rfl rfl (eC AM rfl rfl) (fun w2 f2 he hE=>⟨rfl,_,f2,rfl,(by simp[Da]),hE⟩) fun hn2=>?_
 cases hn2
 have hkl:=hp.2.2.1
 have hkl2:r.len+1≤100000:=hkl
 have hall:=(D8 hp).2
 refine B4 (fun w f=>Bu w f r (D4 ka kc 6) (kc-1)) (fun w f hM=>A9.rest hM.f0) Bu.mono<|B4 (fun w f=>A9 w f ka 0 (.cons h hk r)) (fun w f hM=>Bu.at hM.f1) A9.mono<|CB (α:=Nat×Nat×Option Addr×Nat) (fun x=>ka=some ⟨x.1,x.2.1,none⟩) (fun x=>[⟨x.1,x.2.1+0*6,JJ h x.2.2.1 hk.len x.2.2.2⟩]) (fun x=>[fun w f=>Bu w f hk x.2.2.1 x.2.2.2,fun w f=>A9 w f ka 1 r]) (fun w f hM=>let ⟨b,off,ka,kc,h1,h2,h3,h4⟩:=A9.head hM.f0;⟨(b,off,ka,kc),h1,(oE h2),A1.mem ⟨h3,h4,trivial⟩⟩) (fun x=>Af.mem ⟨Bu.mono,A9.mono,trivial⟩) ?_
 rintro⟨eb,eo,hka,hkc⟩ rfl
 refine Dj [0,1] Ap (.rd 0 (.rd 1 (.br 2 (rd [3,4,5,6,7,8,9,10,11,12,13] (.br 14 (.rd 15 (.br 16 .fin .fin)) .fin)) .fin))) rfl kR<|AA AH 2 [1,1] (y<|y<|fun _=>Ag rfl ?_ Ai)
 refine Dy rfl rfl (eC Hz rfl rfl) (fun w f hM=>C3 _ t _)<|go AH 1 [] (fun _=>Ax [0,1] rfl<|AA AH 1 [] (fun _=>Kk 11 rfl (fun h3=>?_) (fun h3=>?_)))
 refine AA AH 6 [1] (y<|fun _=>Kk 17 rfl (fun h4=>?_) (fun h4=>?_))
 refine AA AH 4 [1,100,0] (y<|And.intro (by first|(simp only[Fo.len];omega)|(dsimp only;omega)|omega)<|y2<|fun _=>Ag rfl ?_ Ai)
 refine Dy rfl rfl (eC YA rfl rfl) (fun w f hM=>Gm _ h _)<|go AH 1 [] (fun _=>Ax [0,1] rfl<|AA AH 1 [] (fun _=>Ag rfl ?_ Ai))
 refine Ba rfl rfl (eC AM rfl rfl) (fun w2 f2 he hE=>⟨rfl,_,f2,rfl,(by simp[Da,SP.need,A3,he,h3,h4]),hE⟩) fun hn3=>go AH 1 [] (fun _=>Ax [0,1] rfl<|B3<|go AH 5 [1] (y<|fun _=>Fh rfl rfl (fun w f hM=>Hg rfl rfl rfl Gk)<|go AH 4 [] (fun _=>?_)))
 generalize hla:D4 (some (⟨eb,eo,none⟩:Addr)) kc 6=la
 refine go AH 24 [1,100,4] (y<|And.intro (by first|(simp only[Fo.len];omega)|(dsimp only;omega)|omega)<|y2<|fun _=>AZ 36 rfl rfl (fun h5=>?_) (fun h5=>?_))
 refine go AH 2 [] (fun _=>?_)
 rcases Fo.most r with ⟨a,ak,b,bk,c,ck,r2,rfl⟩|hne
 refine Ky (p:=(Fo.cons a ak (.cons b bk (.cons c ck r2))).len≤kc-1) (fun w f hM=>hM.f3.1) fun hcap=>?_
 have hcap2:r2.len+3≤kc-1:=hcap
 have hkl3:r2.len+3+1≤100000:=hkl2
 have hbl:bk.len≤100000:=hall.2.1.2.2.1
 refine B4 (fun w f=>A9 w f la 0 (.cons a ak (.cons b bk (.cons c ck r2)))) (fun w f hM=>Bu.at hM.f3) A9.mono<|CB (α:=Nat×Nat×Option Addr×Nat) (fun x=>la=some ⟨x.1,x.2.1,none⟩) (fun x=>[⟨x.1,x.2.1+0*6,JJ a x.2.2.1 ak.len x.2.2.2⟩]) (fun x=>[fun w f=>Bu w f ak x.2.2.1 x.2.2.2,fun w f=>A9 w f la 1 (.cons b bk (.cons c ck r2))]) (fun w f hM=>let ⟨b,off,ka,kc,h1,h2,h3,h4⟩:=A9.head hM.f0;⟨(b,off,ka,kc),h1,(oE h2),A1.mem ⟨h3,h4,trivial⟩⟩) (fun x=>Af.mem ⟨Bu.mono,A9.mono,trivial⟩) ?_
 rintro⟨eb0,eo0,k0a,k0c⟩ rfl
 refine CB (α:=Nat×Nat×Option Addr×Nat) (fun x=>(some (⟨eb0,eo0,none⟩:Addr))=some ⟨x.1,x.2.1,none⟩) (fun x=>[⟨x.1,x.2.1+1*6,JJ b x.2.2.1 bk.len x.2.2.2⟩]) (fun x=>[fun w f=>Bu w f bk x.2.2.1 x.2.2.2,fun w f=>A9 w f (some (⟨eb0,eo0,none⟩:Addr)) 2 (.cons c ck r2)]) (fun w f hM=>let ⟨b,off,ka,kc,h1,h2,h3,h4⟩:=A9.head hM.f1;⟨(b,off,ka,kc),h1,(oE h2),A1.mem ⟨h3,h4,trivial⟩⟩) (fun x=>Af.mem ⟨Bu.mono,A9.mono,trivial⟩) ?_
 rintro⟨eb1,eo1,k1a,k1c⟩ h44
 obtain⟨rfl,rfl⟩:eb0=eb1∧eo0=eo1:=by cases h44;exact⟨rfl,rfl⟩
 refine Dj [0,1] Ap (rd [0,1,2,3,4,5,6] (.br 7 (rd [8,9,10,11,12] (.br 13 (rd [14,15,16,17,18,19,20,21,22] (.br 23 .fin .fin)) .fin)) .fin)) rfl kR<|AA AH 4 [1] (y<|fun _=>Kk 41 rfl (fun h6=>?_) (fun h6=>?_))
 refine AA AH 3 [101,0] (And.intro (by first|(simp only[Fo.len];omega)|(dsimp only;omega)|omega)<|y2<|fun _=>Ag rfl ?_ Ai)
 refine Dy rfl rfl (eC To rfl rfl) (fun w f hM=>Gq _ (D7.gl hM.f10) a _ hall.1.1.1 hall.1.1.2)<|go AH 1 [] (fun _=>Ax [0,1] rfl<|AA AH 2 [] (fun _=>Kk 47 rfl (fun h7=>?_) (fun h7=>?_)))
 refine AA AH 3 [100,0] (And.intro (by first|(simp only[Fo.len];omega)|(dsimp only;omega)|omega)<|y2<|fun _=>Ag rfl ?_ Ai)
 refine Dy rfl rfl (eC Hz rfl rfl) (fun w f hM=>C3 _ b _)<|go AH 1 [] (fun _=>Ax [0,1] rfl<|AA AH 2 [] (fun _=>Kk 53 rfl (fun h8=>?_) (fun h8=>?_)))
 refine AA AH 7 [100,5] (And.intro (by first|(simp only[Fo.len];omega)|(dsimp only;omega)|omega)<|y2<|fun _=>Ag rfl ?_ Ai)
 refine Ba rfl rfl (eC AM rfl rfl) (fun w2 f2 he hE=>⟨rfl,_,f2,rfl,(by simp[Da,SP.need,A3,he,h3,h4,hn3,h5,h6,h7,h8]),hE⟩) fun hn4=>go AH 1 [] (fun _=>Ax [0,1] rfl<|B3<|go AH 18 [100,5] (And.intro (by first|(simp only[Fo.len];omega)|(dsimp only;omega)|omega)<|y2<|fun _=>B4 (fun w f=>Bu w f (.cons c ck r2) (some ⟨eb0,eo0+2*6,none⟩) (kc-1-2)) (fun w f hM=>A9.toF hM.f1 (by show r2.len+1≤_;omega)) Bu.mono<|QJ 54 6 ?_))
 refine H9 (α:=Nat×Fo×Nd×List Value×Option Addr×Nat) (fun x=>x.2.1.len) (fun x=>x.1+x.2.1.len=bk.len∧x.2.2.1.len=x.1∧(Cg bk=match Cg x.2.1 with|none=>none|some y=>some (x.2.2.1.app y))∧x.2.1.all (fun t _=>t.ok)) (fun x=>(E7 1 (.pointer (some ⟨b1,0,none⟩)) 2 (.pointer (some ⟨b2,0,none⟩)) 3 (.slice (some (⟨eb0,eo0,none⟩:Addr)) (Fo.cons a ak (.cons b bk (.cons c ck r2))).len (kc-1)) 5 (.slice x.2.2.2.2.1 x.1 x.2.2.2.2.2) 65 (.slice k1a bk.len k1c) 66 (.int .i64 (bk.len:Int)) 67 (.int .i64 (x.1:Int)))) (fun x=>X0 w f) (fun x=>[⟨b2,[.int .i64 0,.int .i64 0,.int .i64 0,.string ⟨#[]⟩,.int .i64 0,.slice none 0 0],54,true⟩,⟨b1,[.int .i64 t.k,.int .i64 t.ln,.int .i64 t.co,.int .i64 t.nm,S t.tx,.slice (some (⟨eb,eo,none⟩:Addr)) (Fo.cons h hk (Fo.cons a ak (.cons b bk (.cons c ck r2)))).len kc],81,true⟩]) (fun x=>[⟨54,6,x.2.2.2.2.1,x.2.2.2.2.2,x.1,x.2.2.2.1⟩]) (fun x=>[]) (fun x=>[fun w f=>A9 w f k1a x.1 x.2.1,fun w f=>Ce w f x.2.2.1 x.2.2.2.1,fun w f=>A9 w f (some (⟨eb0,eo0,none⟩:Addr)) 0 (Fo.cons a ak (.cons b bk (.cons c ck r2))),fun w f=>Bu w f (.cons c ck r2) (some ⟨eb0,eo0+2*6,none⟩) (kc-1-2),fun w f=>D7 w f]) (0,bk,.nil,[],none,0) ⟨Nat.zero_add _,rfl,XP,Fo.ok.all hall.2.1.2.1⟩ lE (fun w f hM=>hM.more (B':=[]) (F':=[fun w f=>A9 w f k1a 0 bk,fun w f=>Ce w f .nil []]) nE (A1.mem ⟨Bu.at hM.f1,rfl,trivial⟩) (Af.mem ⟨A9.mono,Ce.mono,trivial⟩) |>.less (sK (sK sZ)) sR nE (mR [0,1,7,2,13])) ?_
 rintro⟨i,q,vs,xs,ra,rc⟩ ⟨hi,hvl,htv,hqo⟩
 dsimp only at hi hvl htv hqo ⊢
 refine go AH 6 [] (fun _=>AZ 68 rfl rfl (fun h9=>?_) (fun h9=>?_))
 refine go AH 6 [] (fun _=>?_)
 have hil:i<bk.len:=by have:=of_decide_eq_true h9;omega
 obtain⟨v,vk,q,rfl⟩:=Fo.cases1 q oM
 have hi2:i+(q.len+1)=bk.len:=hi
 refine CB (α:=Nat×Nat×Option Addr×Nat) (fun x=>k1a=some ⟨x.1,x.2.1,none⟩) (fun x=>[⟨x.1,x.2.1+i*6,JJ v x.2.2.1 vk.len x.2.2.2⟩]) (fun x=>[fun w f=>Bu w f vk x.2.2.1 x.2.2.2,fun w f=>A9 w f k1a (i+1) q]) (fun w f hM=>let ⟨b,off,ka,kc,h1,h2,h3,h4⟩:=A9.head hM.f0;⟨(b,off,ka,kc),h1,(oE h2),A1.mem ⟨h3,h4,trivial⟩⟩) (fun x=>Af.mem ⟨Bu.mono,A9.mono,trivial⟩) ?_
 rintro⟨vb,vo,vka,vkc⟩ rfl
 refine go AH 8 [100,0,0] (And.intro (by first|(simp only[Fo.len];omega)|(dsimp only;omega)|omega)<|y2<|fun b3=>y<|fun _=>Dj [0,1,2] Ap (.rd 0 (.rd 1 (.br 2 (.br 3 .fin .fin) .fin))) rfl kR<|AA AH 2 [2,0] (y<|y<|fun _=>Ag rfl ?_ Ai))
 refine Dy rfl rfl (eC XK rfl rfl) (fun w f hM=>JG _ v _ hqo.1.1)<|go AH 1 [] (fun _=>Ax [0,1,2] rfl<|Ag rfl ?_ Ai)
 exact Ba rfl rfl (eC AM rfl rfl) (fun w2 f2 he hE=>⟨rfl,_,f2,rfl,(by have h9:=jO htv he;simp[Da,SP.need,h9,h3,h4,hn3,h5,h6,h7,h8,hn4]),hE⟩) fun hn5=>go AH 1 [] (fun _=>Ax [0,1,2] rfl<|B3<|go AH 7 [0,0] (y<|y<|fun _=>Dy rfl rfl (eC Bn rfl rfl) (fun w f hM=>AE _ v _ _ _ _ _ _)<|go AH 1 [] (fun b4=>fun _=>DH 0 0 rfl rfl Mi rfl rfl rfl rfl rfl rfl rfl rfl (fun _ _=>rfl) oM oM fun ra2 rc2=>go AH 8 [] (And.intro ⟨oM,oM⟩<|fun _=>Eb ((i+1,q,(vs.app (A3 v 31 v.tx .nil).one),(xs++F9 31 v.ln v.co v.tx 0 none 0 0),ra2,rc2)) (show q.len<q.len+1 from Nat.lt_succ_self _) ⟨show i+1+q.len=_ by omega,show (vs.app (A3 v 31 v.tx .nil).one).len=i+1 by rw[Nd.app_len,hvl];rfl,aO htv hn5,hqo.2⟩ lE (fun w f hM=>⟨_,(hM.more (B':=[]) (F':=[fun w f=>Ce w f (vs.app (A3 v 31 v.tx .nil).one) (xs++F9 31 v.ln v.co v.tx 0 none 0 0)]) nE (A1.mem ⟨Ce.app (Ce.one (k:=.nil) ⟨Nat.zero_le _,.inl rfl⟩) hM.f3,trivial⟩) (Af.mem ⟨Ce.mono,trivial⟩)).less (sD (sD (sK (sK sZ)))) sR nE (mR [2,0,5,6,7])⟩)))))
 refine go AH 3 [] (fun _=>Hc<|go AH 3 [] (fun _=>?_))
 obtain rfl:q=.nil:=Fo.len0 (by have:=of_decide_eq_false h9;omega)
 have htv2:=jI htv
 have hie:i=bk.len:=by have h9:i+0=bk.len:=hi;omega
 subst hvl
 refine CB (α:=Nat×Nat×Option Addr×Nat) (fun x=>(some (⟨eb0,eo0,none⟩:Addr))=some ⟨x.1,x.2.1,none⟩) (fun x=>[⟨x.1,x.2.1+0*6,JJ a x.2.2.1 ak.len x.2.2.2⟩]) (fun x=>[fun w f=>Bu w f ak x.2.2.1 x.2.2.2,fun w f=>A9 w f (some (⟨eb0,eo0,none⟩:Addr)) 1 (.cons b bk (.cons c ck r2))]) (fun w f hM=>let ⟨b,off,ka,kc,h1,h2,h3,h4⟩:=A9.head hM.f2;⟨(b,off,ka,kc),h1,(oE h2),A1.mem ⟨h3,h4,trivial⟩⟩) (fun x=>Af.mem ⟨Bu.mono,A9.mono,trivial⟩) ?_
 rintro⟨eb9,eo9,k9a,k9c⟩ h44
 obtain⟨rfl,rfl⟩:eb0=eb9∧eo0=eo9:=by cases h44;exact⟨rfl,rfl⟩
 refine Dj [1] Ap (rd [0,1,2,3,4,5,6,7,8] (.br 9 (.br 10 (.br 11 (.br 12 .fin .fin) .fin) .fin) .fin)) rfl kR<|AA AH 8 [0,100,4] (y<|And.intro (by first|(simp only[Fo.len];omega)|(dsimp only;omega)|omega)<|y2<|fun _=>HN rfl rfl rfl (fun w hK=>Zr (Fo.cons c ck r2).len rfl rfl rfl oM Gk)<|Ag rfl ?_ Ai)
 refine WO rfl rfl (eC Dv rfl rfl) (fun w f hM=>Hb 35 gK (Ih (n+1)) (GN (n+1)) (fun w f hv hJ t k a c hd hT=>Tj n w f hv hJ t k a c hd hT) w f hM.vl hM.f6 (.cons c ck r2) _ _ (Fo.all_imp (fun _ _ h=>Ra h) hall.2.2) (by show r2.len+1≤_;omega) hM.f5) (fun _=>⟨Ce.mono,trivial⟩) (fun e w2 f2 he hE=>⟨rfl,e,f2,rfl,(by simp[Da,SP.need,A3,he,h3,h4,hn3,h5,h6,h7,h8,hn4,htv2]),hE⟩) ?_
 rintro⟨nds1,xnds1⟩ ands1 cnds1 hnds1
 dsimp only at hnds1 ⊢
 have hnl:=Ek hnds1
 have hnl2:nds1.len=r2.len+1:=hnl
 refine Ky (p:=∃rb,ands1=some ⟨rb,0,none⟩) (fun w f hM=>by rcases (hM.row _ (.head _)).2 with ⟨_,_,h9⟩|⟨ob,_,h9,_⟩;(dsimp only at h9;omega);exact⟨ob,h9⟩) fun hob=>?_
 obtain⟨rb,rfl⟩:=hob
 refine dR 0 rfl rfl<|go AH 1 [] (fun _=>Bh [1] Fu rfl (fun _ h=>.tail _ h)<|Ag rfl ?_ Ai)
 refine Ky (p:=xnds1.length=nds1.len*6∧∀v∈xnds1,v.oneCell'=true) (fun w f hM=>⟨Ce.len hM.f0,Ce.one' hM.f0⟩) fun⟨hxl,hx1⟩=>WI 0 0 rfl rfl Mi rfl rfl rfl rfl rfl rfl hxl hx1 oM (fun _ _=>rfl) oM oM fun ands2 cnds2=>B4 (fun w f=>Ce w f (vs.app nds1) (xs++xnds1)) (fun w f hM=>Ce.app hM.f0 hM.f4) Ce.mono<|QH (fun w f=>AK w f (vs.app nds1) ands2 cnds2) AK.mono (fun w f hM=>KD hM hM.f0)<|go AH 1 [] (fun _=>Bh [1] Fu rfl (fun _ h=>.tail _ h)<|Ag rfl ?_ Ai)
 refine Dy rfl rfl (eC Bn rfl rfl) (fun w f hM=>AE _ t _ _ _ _ _ _)<|go AH 1 [] (fun _=>Bh [1] Fu rfl (fun _ h=>.tail _ h)<|Ag rfl ?_ Ai)
 exact go AH 2 [0] (y<|fun _=>Bh [1] Fu rfl (fun _ h=>.tail _ h)<|B3<|go AH 4 [] (fun _=>AY (fun w f hM=>AI rfl (Ac rfl Bc hM.k0 rfl)) (fun w f hM=>⟨(⟨41,t.ln,t.co,a.tx,0,(vs.app nds1)⟩,ands2,cnds2),f,(by simp[nV,Nd.app_len,N.one,N.cons,Nd.len,Nat.add_comm]),(by simp[Da,SP.need,A3,h3,h4,hn3,h5,h6,h7,h8,hn4,htv2,hnds1]),hM.exm,⟨hM.f0,trivial⟩⟩)))
 refine AA AH 7 [] (fun _=>Ag rfl ?_ Ai)
 refine Ba rfl rfl (eC AM rfl rfl) (fun w2 f2 he hE=>⟨rfl,_,f2,rfl,(by simp[Da,SP.need,A3,he,h3,h4,hn3,h5,h6,h7,h8]),hE⟩) fun hn6=>?_
 cases hn6
 refine AA AH 3 [] (fun _=>Ag rfl ?_ Ai)
 refine go AH 2 [] (fun _=>Ax [0,1] rfl<|AA AH 9 [] (fun _=>Ag rfl ?_ Ai))
 refine Ba rfl rfl (eC AM rfl rfl) (fun w2 f2 he hE=>⟨rfl,_,f2,rfl,(by simp[Da,SP.need,A3,he,h3,h4,hn3,h5,h6,h7]),hE⟩) fun hn7=>?_
 cases hn7
 have h9:=of_decide_eq_false h6;simp only[Fo.len] at h9;omega
 refine Dj [0,1] Ap (rd [0,1,2,3,4,5,6] (.br 7 (rd [8,9,10,11,12] (.br 13 (rd [14,15,16,17,18,19,20,21,22] (.br 23 .fin .fin)) .fin)) .fin)) rfl kR<|AA AH 4 [1] (y<|fun _=>Kk 41 rfl (fun h10=>?_) (fun h10=>?_))
 have h9:=of_decide_eq_true h10;omega
 refine AA AH 3 [] (fun _=>Ag rfl ?_ Ai)
 refine go AH 2 [] (fun _=>Ax [0,1] rfl<|AA AH 5 [] (fun _=>Ag rfl ?_ Ai))
 refine go AH 2 [] (fun _=>Ax [0,1] rfl<|AA AH 9 [] (fun _=>Ag rfl ?_ Ai))
 refine Ba rfl rfl (eC AM rfl rfl) (fun w2 f2 he hE=>⟨rfl,_,f2,rfl,(by exact ZO (beq_iff_eq.1 h5) hne),hE⟩) fun hn8=>?_
 cases hn8
 refine go AH 7 [] (fun _=>AZ 96 rfl rfl (fun h11=>?_) (fun h11=>?_))
 refine go AH 2 [] (fun _=>?_)
 rcases Fo.three r with ⟨a,ak,b,bk,c,ck,rfl⟩|hne
 refine B4 (fun w f=>A9 w f la 0 (.cons a ak (.cons b bk (.cons c ck .nil)))) (fun w f hM=>Bu.at hM.f3) A9.mono<|CB (α:=Nat×Nat×Option Addr×Nat) (fun x=>la=some ⟨x.1,x.2.1,none⟩) (fun x=>[⟨x.1,x.2.1+0*6,JJ a x.2.2.1 ak.len x.2.2.2⟩]) (fun x=>[fun w f=>Bu w f ak x.2.2.1 x.2.2.2,fun w f=>A9 w f la 1 (.cons b bk (.cons c ck .nil))]) (fun w f hM=>let ⟨b,off,ka,kc,h1,h2,h3,h4⟩:=A9.head hM.f0;⟨(b,off,ka,kc),h1,(oE h2),A1.mem ⟨h3,h4,trivial⟩⟩) (fun x=>Af.mem ⟨Bu.mono,A9.mono,trivial⟩) ?_
 rintro⟨eb0,eo0,k0a,k0c⟩ rfl
 refine CB (α:=Nat×Nat×Option Addr×Nat) (fun x=>(some (⟨eb0,eo0,none⟩:Addr))=some ⟨x.1,x.2.1,none⟩) (fun x=>[⟨x.1,x.2.1+1*6,JJ b x.2.2.1 bk.len x.2.2.2⟩]) (fun x=>[fun w f=>Bu w f bk x.2.2.1 x.2.2.2,fun w f=>A9 w f (some (⟨eb0,eo0,none⟩:Addr)) 2 (.cons c ck .nil)]) (fun w f hM=>let ⟨b,off,ka,kc,h1,h2,h3,h4⟩:=A9.head hM.f1;⟨(b,off,ka,kc),h1,(oE h2),A1.mem ⟨h3,h4,trivial⟩⟩) (fun x=>Af.mem ⟨Bu.mono,A9.mono,trivial⟩) ?_
 rintro⟨eb1,eo1,k1a,k1c⟩ h44
 obtain⟨rfl,rfl⟩:eb0=eb1∧eo0=eo1:=by cases h44;exact⟨rfl,rfl⟩
 refine CB (α:=Nat×Nat×Option Addr×Nat) (fun x=>(some (⟨eb0,eo0,none⟩:Addr))=some ⟨x.1,x.2.1,none⟩) (fun x=>[⟨x.1,x.2.1+2*6,JJ c x.2.2.1 ck.len x.2.2.2⟩]) (fun x=>[fun w f=>Bu w f ck x.2.2.1 x.2.2.2,fun w f=>A9 w f (some (⟨eb0,eo0,none⟩:Addr)) 3 .nil]) (fun w f hM=>let ⟨b,off,ka,kc,h1,h2,h3,h4⟩:=A9.head hM.f1;⟨(b,off,ka,kc),h1,(oE h2),A1.mem ⟨h3,h4,trivial⟩⟩) (fun x=>Af.mem ⟨Bu.mono,A9.mono,trivial⟩) ?_
 rintro⟨eb2,eo2,k2a,k2c⟩ h44
 obtain⟨rfl,rfl⟩:eb0=eb2∧eo0=eo2:=by cases h44;exact⟨rfl,rfl⟩
 refine Dj [0,1] Ap (rd [0,1,2,3,4,5,6] (.br 7 (.rd 8 (.br 9 .fin .fin)) .fin)) rfl kR<|AA AH 4 [1] (y<|fun _=>Kk 101 rfl (fun h12=>?_) (fun h12=>?_))
 refine AA AH 3 [102,0] (And.intro (by first|(simp only[Fo.len];omega)|(dsimp only;omega)|omega)<|y2<|fun _=>Ag rfl ?_ Ai)
 refine Dy rfl rfl (eC NP rfl rfl) (fun w f hM=>Fa _ (D7.gl hM.f12) a _ hall.1.1.1 hall.1.1.2)<|go AH 1 [] (fun _=>Ax [0,1] rfl<|AA AH 1 [] (fun _=>Ag rfl ?_ Ai))
 refine Ba rfl rfl (eC AM rfl rfl) (fun w2 f2 he hE=>⟨rfl,_,f2,rfl,(by simp[Da,SP.need,A3,he,h3,h4,hn3,h5,h11,h12]),hE⟩) fun hn9=>go AH 1 [] (fun _=>Ax [0,1] rfl<|B3<|go AH 2 [] (fun _=>Dj [1] Ap (rd [0,1,2,3,4,5,6,7,8,10,11,12] (.br 9 (.br 13 (.br 14 (.br 15 (.br 16 .fin .fin) .fin) .fin) .fin) .fin)) rfl kR<|AA AH 12 [0,102,4,101,0,100,0] (y<|And.intro (by first|(simp only[Fo.len];omega)|(dsimp only;omega)|omega)<|y2<|And.intro (by first|(simp only[Fo.len];omega)|(dsimp only;omega)|omega)<|y2<|And.intro (by first|(simp only[Fo.len];omega)|(dsimp only;omega)|omega)<|y2<|fun _=>Ag rfl ?_ Ai)))
 refine JY rfl rfl (eC KI rfl rfl) (fun w f hM=>LP n w f hM.vl hM.f12 b bk _ _ hall.2.1 hM.f2) (fun _=>⟨AK.mono,trivial⟩) (fun e w2 f2 he hE=>⟨rfl,e,f2,rfl,(by simp[Da,SP.need,A3,he,h3,h4,hn3,h5,h11,h12,hn9]),hE⟩) ?_
 rintro⟨nd1,and1,cnd1⟩ hnd1
 dsimp only at hnd1 ⊢
 refine go AH 1 [] (fun _=>Ax [1] rfl<|Ag rfl ?_ Ai)
 refine JY rfl rfl (eC D1 rfl rfl) (fun w f hM=>ihx w f hM.vl hM.f13 c ck _ _ hall.2.2.1 hM.f1) (fun _=>⟨AK.mono,trivial⟩) (fun e w2 f2 he hE=>⟨rfl,e,f2,rfl,(by simp[Da,SP.need,A3,he,h3,h4,hn3,h5,h11,h12,hn9,hnd1]),hE⟩) ?_
 rintro⟨nd2,and2,cnd2⟩ hnd2
 dsimp only at hnd2 ⊢
 refine go AH 1 [] (fun _=>Ax [1] rfl<|Ag rfl ?_ Ai)
 refine go AH 2 [] (fun b5=>fun _=>Ax [2] rfl<|Ag rfl ?_ Ai)
 refine Dl 0 rfl rfl<|B4 (fun w f=>AK w f (nd1.cons (nd2.one)) (some ⟨b5,0,none⟩) 2) (fun w f hM=>Ce.toF (Ce.cons' hM.f1 (Ce.cons' hM.f0 (show Ce _ _ .nil [] from rfl))) hM.b0 (Nat.le_refl _)) AK.mono<|Dy rfl rfl (eC Bn rfl rfl) (fun w f hM=>AE _ t _ _ _ _ _ _)<|go AH 1 [] (fun _=>Bh [1] Fu rfl (fun _ h=>.tail _ h)<|Ag rfl ?_ Ai)
 exact go AH 2 [0] (y<|fun _=>Bh [1] Fu rfl (fun _ h=>.tail _ h)<|B3<|go AH 4 [] (fun _=>AY (fun w f hM=>AI rfl (Ac rfl Bc hM.k0 rfl)) (fun w f hM=>⟨(⟨43,t.ln,t.co,a.tx,0,(nd1.cons (nd2.one))⟩,(some ⟨b5,0,none⟩),2),f,rfl,(by simp[Da,SP.need,A3,h3,h4,hn3,h5,h11,h12,hn9,hnd1,hnd2]),hM.exm,⟨hM.f0,trivial⟩⟩)))
 simp[Fo.len] at h12
 refine Dj [0,1] Ap (rd [0,1,2,3,4,5,6] (.br 7 (.rd 8 (.br 9 .fin .fin)) .fin)) rfl kR<|AA AH 4 [1] (y<|fun _=>Kk 101 rfl (fun h13=>?_) (fun h13=>?_))
 exact absurd (by have h9:=beq_iff_eq.1 h13;omega) hne
 refine AA AH 3 [] (fun _=>Ag rfl ?_ Ai)
 refine go AH 2 [] (fun _=>Ax [0,1] rfl<|AA AH 1 [] (fun _=>Ag rfl ?_ Ai))
 refine Ba rfl rfl (eC AM rfl rfl) (fun w2 f2 he hE=>⟨rfl,_,f2,rfl,(by exact bW (beq_iff_eq.1 h11) hne),hE⟩) fun hn10=>?_
 cases hn10
 refine go AH 7 [] (fun _=>AZ 124 rfl rfl (fun h14=>?_) (fun h14=>?_))
 refine go AH 2 [] (fun _=>?_)
 rcases Fo.two r with ⟨a,ak,b,bk,rfl⟩|hne
 refine B4 (fun w f=>A9 w f la 0 (.cons a ak (.cons b bk .nil))) (fun w f hM=>Bu.at hM.f3) A9.mono<|CB (α:=Nat×Nat×Option Addr×Nat) (fun x=>la=some ⟨x.1,x.2.1,none⟩) (fun x=>[⟨x.1,x.2.1+0*6,JJ a x.2.2.1 ak.len x.2.2.2⟩]) (fun x=>[fun w f=>Bu w f ak x.2.2.1 x.2.2.2,fun w f=>A9 w f la 1 (.cons b bk .nil)]) (fun w f hM=>let ⟨b,off,ka,kc,h1,h2,h3,h4⟩:=A9.head hM.f0;⟨(b,off,ka,kc),h1,(oE h2),A1.mem ⟨h3,h4,trivial⟩⟩) (fun x=>Af.mem ⟨Bu.mono,A9.mono,trivial⟩) ?_
 rintro⟨eb0,eo0,k0a,k0c⟩ rfl
 refine CB (α:=Nat×Nat×Option Addr×Nat) (fun x=>(some (⟨eb0,eo0,none⟩:Addr))=some ⟨x.1,x.2.1,none⟩) (fun x=>[⟨x.1,x.2.1+1*6,JJ b x.2.2.1 bk.len x.2.2.2⟩]) (fun x=>[fun w f=>Bu w f bk x.2.2.1 x.2.2.2,fun w f=>A9 w f (some (⟨eb0,eo0,none⟩:Addr)) 2 .nil]) (fun w f hM=>let ⟨b,off,ka,kc,h1,h2,h3,h4⟩:=A9.head hM.f1;⟨(b,off,ka,kc),h1,(oE h2),A1.mem ⟨h3,h4,trivial⟩⟩) (fun x=>Af.mem ⟨Bu.mono,A9.mono,trivial⟩) ?_
 rintro⟨eb1,eo1,k1a,k1c⟩ h44
 obtain⟨rfl,rfl⟩:eb0=eb1∧eo0=eo1:=by cases h44;exact⟨rfl,rfl⟩
 refine Dj [0,1] Ap (rd [0,1,2,3,4,5,6] (.br 7 (.rd 8 (.br 9 .fin .fin)) .fin)) rfl kR<|AA AH 4 [1] (y<|fun _=>Kk 129 rfl (fun h15=>?_) (fun h15=>?_))
 refine AA AH 3 [101,0] (And.intro (by first|(simp only[Fo.len];omega)|(dsimp only;omega)|omega)<|y2<|fun _=>Ag rfl ?_ Ai)
 refine Dy rfl rfl (eC NP rfl rfl) (fun w f hM=>Fa _ (D7.gl hM.f10) a _ hall.1.1.1 hall.1.1.2)<|go AH 1 [] (fun _=>Ax [0,1] rfl<|AA AH 1 [] (fun _=>Ag rfl ?_ Ai))
 refine Ba rfl rfl (eC AM rfl rfl) (fun w2 f2 he hE=>⟨rfl,_,f2,rfl,(by simp[Da,SP.need,A3,he,h3,h4,hn3,h5,h11,h14,h15]),hE⟩) fun hn11=>go AH 1 [] (fun _=>Ax [0,1] rfl<|B3<|go AH 2 [] (fun _=>Dj [1] Ap (rd [0,1,2,3,4,5,6,7,8] (.br 9 (.br 10 (.br 11 (.br 12 .fin .fin) .fin) .fin) .fin)) rfl kR<|AA AH 9 [0,101,4,100,0] (y<|And.intro (by first|(simp only[Fo.len];omega)|(dsimp only;omega)|omega)<|y2<|And.intro (by first|(simp only[Fo.len];omega)|(dsimp only;omega)|omega)<|y2<|fun _=>Ag rfl ?_ Ai)))
 refine JY rfl rfl (eC D1 rfl rfl) (fun w f hM=>ihx w f hM.vl hM.f10 b bk _ _ hall.2.1 hM.f0) (fun _=>⟨AK.mono,trivial⟩) (fun e w2 f2 he hE=>⟨rfl,e,f2,rfl,(by simp[Da,SP.need,A3,he,h3,h4,hn3,h5,h11,h14,h15,hn11]),hE⟩) ?_
 rintro⟨nd3,and3,cnd3⟩ hnd3
 dsimp only at hnd3 ⊢
 refine go AH 1 [] (fun _=>Ax [1] rfl<|Ag rfl ?_ Ai)
 refine go AH 2 [] (fun b6=>fun _=>Ax [2] rfl<|Ag rfl ?_ Ai)
 refine Dl 0 rfl rfl<|B4 (fun w f=>AK w f (nd3.one) (some ⟨b6,0,none⟩) 1) (fun w f hM=>Ce.toF (Ce.cons' hM.f0 (show Ce _ _ .nil [] from rfl)) hM.b0 (Nat.le_refl _)) AK.mono<|Dy rfl rfl (eC Bn rfl rfl) (fun w f hM=>AE _ t _ _ _ _ _ _)<|go AH 1 [] (fun _=>Bh [1] Fu rfl (fun _ h=>.tail _ h)<|Ag rfl ?_ Ai)
 exact go AH 2 [0] (y<|fun _=>Bh [1] Fu rfl (fun _ h=>.tail _ h)<|B3<|go AH 4 [] (fun _=>AY (fun w f hM=>AI rfl (Ac rfl Bc hM.k0 rfl)) (fun w f hM=>⟨(⟨44,t.ln,t.co,a.tx,0,(nd3.one)⟩,(some ⟨b6,0,none⟩),1),f,rfl,(by simp[Da,SP.need,A3,h3,h4,hn3,h5,h11,h14,h15,hn11,hnd3]),hM.exm,⟨hM.f0,trivial⟩⟩)))
 simp[Fo.len] at h15
 refine Dj [0,1] Ap (rd [0,1,2,3,4,5,6] (.br 7 (.rd 8 (.br 9 .fin .fin)) .fin)) rfl kR<|AA AH 4 [1] (y<|fun _=>Kk 129 rfl (fun DW=>?_) (fun DW=>?_))
 exact absurd (by have h9:=beq_iff_eq.1 DW;omega) hne
 refine AA AH 3 [] (fun _=>Ag rfl ?_ Ai)
 refine go AH 2 [] (fun _=>Ax [0,1] rfl<|AA AH 1 [] (fun _=>Ag rfl ?_ Ai))
 refine Ba rfl rfl (eC AM rfl rfl) (fun w2 f2 he hE=>⟨rfl,_,f2,rfl,(by exact jW (beq_iff_eq.1 h14) hne),hE⟩) fun hn12=>?_
 cases hn12
 refine go AH 7 [] (fun _=>AZ 148 rfl rfl (fun h17=>?_) (fun h17=>?_))
 refine go AH 2 [] (fun _=>?_)
 rcases Fo.two r with ⟨a,ak,b,bk,rfl⟩|hne
 refine B4 (fun w f=>A9 w f la 0 (.cons a ak (.cons b bk .nil))) (fun w f hM=>Bu.at hM.f3) A9.mono<|CB (α:=Nat×Nat×Option Addr×Nat) (fun x=>la=some ⟨x.1,x.2.1,none⟩) (fun x=>[⟨x.1,x.2.1+0*6,JJ a x.2.2.1 ak.len x.2.2.2⟩]) (fun x=>[fun w f=>Bu w f ak x.2.2.1 x.2.2.2,fun w f=>A9 w f la 1 (.cons b bk .nil)]) (fun w f hM=>let ⟨b,off,ka,kc,h1,h2,h3,h4⟩:=A9.head hM.f0;⟨(b,off,ka,kc),h1,(oE h2),A1.mem ⟨h3,h4,trivial⟩⟩) (fun x=>Af.mem ⟨Bu.mono,A9.mono,trivial⟩) ?_
 rintro⟨eb0,eo0,k0a,k0c⟩ rfl
 refine CB (α:=Nat×Nat×Option Addr×Nat) (fun x=>(some (⟨eb0,eo0,none⟩:Addr))=some ⟨x.1,x.2.1,none⟩) (fun x=>[⟨x.1,x.2.1+1*6,JJ b x.2.2.1 bk.len x.2.2.2⟩]) (fun x=>[fun w f=>Bu w f bk x.2.2.1 x.2.2.2,fun w f=>A9 w f (some (⟨eb0,eo0,none⟩:Addr)) 2 .nil]) (fun w f hM=>let ⟨b,off,ka,kc,h1,h2,h3,h4⟩:=A9.head hM.f1;⟨(b,off,ka,kc),h1,(oE h2),A1.mem ⟨h3,h4,trivial⟩⟩) (fun x=>Af.mem ⟨Bu.mono,A9.mono,trivial⟩) ?_
 rintro⟨eb1,eo1,k1a,k1c⟩ h44
 obtain⟨rfl,rfl⟩:eb0=eb1∧eo0=eo1:=by cases h44;exact⟨rfl,rfl⟩
 refine Dj [0,1] Ap (rd [0,1,2,3,4,5,6] (.br 7 (rd [8,9,10,11,12] (.br 13 (.rd 14 (.br 15 .fin .fin)) .fin)) .fin)) rfl kR<|AA AH 4 [1] (y<|fun _=>Kk 153 rfl (fun h18=>?_) (fun h18=>?_))
 refine AA AH 3 [101,0] (And.intro (by first|(simp only[Fo.len];omega)|(dsimp only;omega)|omega)<|y2<|fun _=>Ag rfl ?_ Ai)
 refine Dy rfl rfl (eC NP rfl rfl) (fun w f hM=>Fa _ (D7.gl hM.f10) a _ hall.1.1.1 hall.1.1.2)<|go AH 1 [] (fun _=>Ax [0,1] rfl<|AA AH 2 [] (fun _=>Kk 159 rfl (fun h19=>?_) (fun h19=>?_)))
 refine AA AH 3 [100,0] (And.intro (by first|(simp only[Fo.len];omega)|(dsimp only;omega)|omega)<|y2<|fun _=>Ag rfl ?_ Ai)
 refine B8 rfl rfl (eC XY rfl rfl) (fun w f hM=>NC w f hM.vl b bk _ _ hM.f0) (fun _=>trivial) ?_
 rintro⟨⟩ -
 refine go AH 1 [] (fun _=>Ax [0,1] rfl<|AA AH 1 [] (fun _=>Ag rfl ?_ Ai))
 refine Ba rfl rfl (eC AM rfl rfl) (fun w2 f2 he hE=>⟨rfl,_,f2,rfl,(by simp[Da,SP.need,A3,he,h3,h4,hn3,h5,h11,h14,h17,h18,h19]),hE⟩) fun hn13=>go AH 1 [] (fun _=>Ax [0,1] rfl<|B3<|go AH 2 [] (fun _=>Dj [1] Ap (rd [0,1,2,3,4,5,6,7,8] (.br 9 (.br 10 (.br 11 (.br 12 .fin .fin) .fin) .fin) .fin)) rfl kR<|AA AH 9 [0,101,4,100,0] (y<|And.intro (by first|(simp only[Fo.len];omega)|(dsimp only;omega)|omega)<|y2<|And.intro (by first|(simp only[Fo.len];omega)|(dsimp only;omega)|omega)<|y2<|fun _=>Ag rfl ?_ Ai)))
 refine JY rfl rfl (eC D1 rfl rfl) (fun w f hM=>ihx w f hM.vl hM.f10 b bk _ _ hall.2.1 hM.f0) (fun _=>⟨AK.mono,trivial⟩) (fun e w2 f2 he hE=>⟨rfl,e,f2,rfl,(by simp[Da,SP.need,A3,he,h3,h4,hn3,h5,h11,h14,h17,h18,h19,hn13]),hE⟩) ?_
 rintro⟨nd4,and4,cnd4⟩ hnd4
 dsimp only at hnd4 ⊢
 refine go AH 1 [] (fun _=>Ax [1] rfl<|Ag rfl ?_ Ai)
 refine go AH 2 [] (fun b7=>fun _=>Ax [2] rfl<|Ag rfl ?_ Ai)
 refine Dl 0 rfl rfl<|B4 (fun w f=>AK w f (nd4.one) (some ⟨b7,0,none⟩) 1) (fun w f hM=>Ce.toF (Ce.cons' hM.f0 (show Ce _ _ .nil [] from rfl)) hM.b0 (Nat.le_refl _)) AK.mono<|Dy rfl rfl (eC Bn rfl rfl) (fun w f hM=>AE _ t _ _ _ _ _ _)<|go AH 1 [] (fun _=>Bh [1] Fu rfl (fun _ h=>.tail _ h)<|Ag rfl ?_ Ai)
 exact go AH 2 [0] (y<|fun _=>Bh [1] Fu rfl (fun _ h=>.tail _ h)<|B3<|go AH 4 [] (fun _=>AY (fun w f hM=>AI rfl (Ac rfl Bc hM.k0 rfl)) (fun w f hM=>⟨(⟨45,t.ln,t.co,a.tx,0,(nd4.one)⟩,(some ⟨b7,0,none⟩),1),f,rfl,(by simp[Da,SP.need,A3,h3,h4,hn3,h5,h11,h14,h17,h18,h19,hn13,hnd4]),hM.exm,⟨hM.f0,trivial⟩⟩)))
 refine AA AH 3 [] (fun _=>Ag rfl ?_ Ai)
 refine go AH 2 [] (fun _=>Ax [0,1] rfl<|AA AH 1 [] (fun _=>Ag rfl ?_ Ai))
 refine Ba rfl rfl (eC AM rfl rfl) (fun w2 f2 he hE=>⟨rfl,_,f2,rfl,(by simp[Da,SP.need,A3,he,h3,h4,hn3,h5,h11,h14,h17,h18,h19]),hE⟩) fun hn14=>?_
 cases hn14
 simp[Fo.len] at h18
 refine Dj [0,1] Ap (rd [0,1,2,3,4,5,6] (.br 7 (rd [8,9,10,11,12] (.br 13 (.rd 14 (.br 15 .fin .fin)) .fin)) .fin)) rfl kR<|AA AH 4 [1] (y<|fun _=>Kk 153 rfl (fun h20=>?_) (fun h20=>?_))
 exact absurd (by have h9:=beq_iff_eq.1 h20;omega) hne
 refine AA AH 3 [] (fun _=>Ag rfl ?_ Ai)
 refine go AH 2 [] (fun _=>Ax [0,1] rfl<|AA AH 5 [] (fun _=>Ag rfl ?_ Ai))
 refine go AH 2 [] (fun _=>Ax [0,1] rfl<|AA AH 1 [] (fun _=>Ag rfl ?_ Ai))
 refine Ba rfl rfl (eC AM rfl rfl) (fun w2 f2 he hE=>⟨rfl,_,f2,rfl,(by exact jY (beq_iff_eq.1 h17) hne),hE⟩) fun hn15=>?_
 cases hn15
 refine go AH 7 [] (fun _=>AZ 178 rfl rfl (fun h21=>?_) (fun h21=>?_))
 refine go AH 2 [] (fun _=>?_)
 rcases Fo.single r with ⟨a,ak,rfl⟩|hne
 refine B4 (fun w f=>A9 w f la 0 (.cons a ak .nil)) (fun w f hM=>Bu.at hM.f3) A9.mono<|CB (α:=Nat×Nat×Option Addr×Nat) (fun x=>la=some ⟨x.1,x.2.1,none⟩) (fun x=>[⟨x.1,x.2.1+0*6,JJ a x.2.2.1 ak.len x.2.2.2⟩]) (fun x=>[fun w f=>Bu w f ak x.2.2.1 x.2.2.2,fun w f=>A9 w f la 1 .nil]) (fun w f hM=>let ⟨b,off,ka,kc,h1,h2,h3,h4⟩:=A9.head hM.f0;⟨(b,off,ka,kc),h1,(oE h2),A1.mem ⟨h3,h4,trivial⟩⟩) (fun x=>Af.mem ⟨Bu.mono,A9.mono,trivial⟩) ?_
 rintro⟨eb0,eo0,k0a,k0c⟩ rfl
 refine go AH 4 [1] (y<|fun _=>Ba rfl rfl (eC AM rfl rfl) (fun w2 f2 he hE=>⟨rfl,_,f2,rfl,(by simp[Fo.len] at he),hE⟩) fun hn16=>go AH 3 [] (fun _=>Dj [1] Ap (rd [0,1,2,3] (.br 4 (.br 5 (.br 6 (.br 7 .fin .fin) .fin) .fin) .fin)) rfl kR<|AA AH 4 [0,100,0] (y<|And.intro (by first|(simp only[Fo.len];omega)|(dsimp only;omega)|omega)<|y2<|fun _=>Ag rfl ?_ Ai)))
 refine JY rfl rfl (eC D1 rfl rfl) (fun w f hM=>ihx w f hM.vl hM.f8 a ak _ _ hall.1 hM.f0) (fun _=>⟨AK.mono,trivial⟩) (fun e w2 f2 he hE=>⟨rfl,e,f2,rfl,(by simp[Da,SP.need,A3,he,h3,h4,hn3,h5,h11,h14,h17,h21,hn16]),hE⟩) ?_
 rintro⟨nd5,and5,cnd5⟩ hnd5
 dsimp only at hnd5 ⊢
 refine go AH 1 [] (fun _=>Ax [1] rfl<|Ag rfl ?_ Ai)
 refine go AH 2 [] (fun b8=>fun _=>Ax [2] rfl<|Ag rfl ?_ Ai)
 refine Dl 0 rfl rfl<|B4 (fun w f=>AK w f (nd5.one) (some ⟨b8,0,none⟩) 1) (fun w f hM=>Ce.toF (Ce.cons' hM.f0 (show Ce _ _ .nil [] from rfl)) hM.b0 (Nat.le_refl _)) AK.mono<|Dy rfl rfl (eC Bn rfl rfl) (fun w f hM=>AE _ t _ _ _ _ _ _)<|go AH 1 [] (fun _=>Bh [1] Fu rfl (fun _ h=>.tail _ h)<|Ag rfl ?_ Ai)
 exact go AH 2 [0] (y<|fun _=>Bh [1] Fu rfl (fun _ h=>.tail _ h)<|B3<|go AH 4 [] (fun _=>AY (fun w f hM=>AI rfl (Ac rfl Bc hM.k0 rfl)) (fun w f hM=>⟨(⟨46,t.ln,t.co,[],0,(nd5.one)⟩,(some ⟨b8,0,none⟩),1),f,rfl,(by simp[Da,SP.need,A3,h3,h4,hn3,h5,h11,h14,h17,h21,hn16,hnd5]),hM.exm,⟨hM.f0,trivial⟩⟩)))
 exact go AH 4 [1] (y<|fun _=>Ba rfl rfl (eC AM rfl rfl) (fun w2 f2 he hE=>⟨rfl,_,f2,rfl,(by exact lV (beq_iff_eq.1 h21) hne),hE⟩) fun hn17=>absurd (by have h9:=beq_iff_eq.1 hn17;omega) hne)
 exact go AH 7 [1] (y<|fun _=>fG rfl rfl (eC UA rfl rfl) (pe:=fun e=>e=(t.ln,t.co)) (T:=41) (fun w f hM=>(IX w t _).mono (fun _ _ h=>h.elim) fun _ w2 ⟨h1,h2⟩=>⟨_,f,h1,rfl,CM.of_ext h2 hM.vl⟩) (fun e w2 f2 he hE=>by subst he;exact⟨rfl,_,f2,rfl,(by exact Tr h5 h11 h14 h17 h21),hE⟩))
 have h9:=of_decide_eq_false h4;simp only[Fo.len] at h9;omega
 refine AA AH 10 [] (fun _=>Ag rfl ?_ Ai)
 refine go AH 2 [] (fun _=>Ax [0,1] rfl<|AA AH 1 [] (fun _=>Ag rfl ?_ Ai))
 refine Ba rfl rfl (eC AM rfl rfl) (fun w2 f2 he hE=>⟨rfl,_,f2,rfl,(by simp[Da,SP.need,A3,he,h3]),hE⟩) fun hn18=>?_
 cases hn18
end Go.Proofs.YthofplgbhecdcaaGreatDoor
namespace Go.SP
open Go.SW Go.RowKit
theorem B7(n:Int):(T1.var n).bnd:=⟨⟨Nat.zero_le _,Nat.zero_le _⟩,trivial⟩
theorem Df{tx:List UInt8}(h:tx.length≤1000000):(c0 tx).bnd:=⟨⟨Nat.zero_le _,h⟩,trivial⟩
theorem D0{tx:List UInt8}{k:Ty}(h:tx.length≤1000000)(hk:k.len≤200000)(hb:k.bnd):(T1.con tx k).bnd:=⟨⟨hk,h⟩,hb⟩
theorem Ty.bnd_app:∀{x y:Ty},x.bnd→y.bnd→(x.app y).bnd
 |.nil,_,_,h=>h
 |.var _ r,_,h,hy=>Ty.bnd_app (x:=r) h hy
 |.con _ _ r,_,h,hy=>⟨h.1,h.2.1,Ty.bnd_app (x:=r) h.2.2 hy⟩
theorem Ty.bnd_snoc{x:Ty}{t:T1}(h:x.bnd)(ht:t.bnd):(x.snoc t).bnd:=Ty.bnd_app h (GK ht)
def nQ(P:Program)(fid:FuncId)(TE T TS:TypeId)(n:Nat):Prop:=∀(w:World)(f:Fq)(_:Vl w f)(A:Ad)(_:A.ok)(s:CS)(_:Au T TS A s w f)(_:∀b,BB A b→f b=0)(_:DR s)(op ln co nm:Int)(tx:List UInt8)(kids:Nd)(na:Option Addr)(nc:Nat)(e:Bg)(ea:Option Addr),
 kids.size<n→kids.size≤200000→AK w f kids na nc→Gg e→AN w f e ea→s.fresh+200001*(kids.size+1)≤800000000000 →
 BQ P fid #[.pointer (some ⟨A.cb,0,none⟩),nV op ln co tx nm kids na nc,.pointer ea] w (Fl (α:=(T1×Option Addr×Nat)×(Bg×Option Addr)×CS) (fun x=>.tuple #[tV x.1.1 x.1.2.1 x.1.2.2,.pointer x.2.1.2]) (fun x=>C6 n s e op ln co tx nm kids=.ok (x.1.1,x.2.1.1,x.2.2)∧x.1.1.bnd∧Gg x.2.1.1∧DR x.2.2∧x.2.2.fresh≤s.fresh+200001*(kids.size+1)) (BB A) (fun x=>Au T TS A x.2.2) (fun x=>[fun w f=>Ah w f x.1.1.kids x.1.2.1 x.1.2.2,fun w f=>AN w f x.2.1.1 x.2.1.2]) w f)
   (PanE TE (BB A) (fun er=>C6 n s e op ln co tx nm kids=.error er) w f)
theorem Te{p:Ol}{s s5 s6:CS}{e e5:Bg}{op ln co nm:Int}{tx:List UInt8}{k r:Nd}{t q:T1}{ar:Ty}(h:p s e op ln co tx nm k=.ok (q,e5,s5))(h2:F2 s5 t q ln co=.ok s6):G7 p s e (t.cons ar) (.cons op ln co tx nm k r)=G7 p s6 e5 ar r:=by
 rw[G7,h];simp only;rw[T1.hd_cons,h2];simp only;rw[T1.tl_cons]
theorem SE{p:Ol}{s:CS}{e:Bg}{k:Nd}:FH p s e k=(match FH p s e k with|.error x=>.error x|.ok (l,e3,s3)=>.ok (Ty.nil.app l,e3,s3)):=by
 cases FH p s e k with
 |error x=>rfl
 |ok q=>rfl
theorem TA{p:Ol}{s s5:CS}{e e5:Bg}{op ln co nm:Int}{tx:List UInt8}{k r:Nd}{d:Ty}{q:T1}(h:p s e op ln co tx nm k=.ok (q,e5,s5)) :
   (match FH p s e (.cons op ln co tx nm k r) with|.error x=>.error x|.ok (l,e3,s3)=>.ok (d.app l,e3,s3):RI (Ty×Bg×CS))=(match FH p s5 e5 r with|.error x=>.error x|.ok (l,e3,s3)=>.ok ((d.snoc q).app l,e3,s3)):=by
 rw[FH,h]
 simp only
 cases FH p s5 e5 r with
 |error x=>rfl
 |ok z=>obtain⟨l,e3,s3⟩:=z;simp only[Ty.snoc_app]
end Go.SP
namespace Go.SW
open Go.RowKit
def VQ:List Oper→Bool
 | []=>true
 |o::l=>(match o.op with|.defer _=>false|_=>true)&&VQ l
abbrev GF(ro:Option Nat):Fence:={Fence.wide with round:=ro}
section
variable{P:Program}{n:Nat}{Q:Bk}{σ:Bo}{ds:List Deferred}{w:World}
theorem VM{ro:Option Nat}{m:Nat}{o:Oper}{a:Act}{next next':Act→World→Prop}{Q:Exit→Act→World→Prop}(hn:∀a w,next a w→next' a w):∀r:Result Next,o.upon P a next Q r→o.uponIn (GF ro) m P a next' Q r
 |.ok (.value _) _,h=>hn _ _ h
 |.ok .skip _,h=>hn _ _ h
 |.ok (.defer _) _,h=>hn _ _ h
 |.ok (.enter f args) w',h=>by
   refine⟨fun e=>(by cases e),?_⟩
   have h2:Calls P f args w' _:=Calls.mono (R':=fun e w''=>match e,w'' with|.returned v,w''=>next' (a.put o.dst v) w'' | .panicked chain,w''=>Q (.panic chain) a w'' | .outgrown,_=>LetsOut Q) h fun e w'' hr=>by
     cases e with
     |returned v=>exact hn _ _ hr
     |panicked c=>exact hr
     |outgrown=>exact hr
   exact (callsIn_wide (n:=m-1)).2 h2
 |.ok (.row row args) w',h=>⟨fun e=>(by cases e),fun c cs _=>let ⟨v,w2,hr,hs⟩:=h c cs;⟨v,w2,hn _ _ hr,stepsIn_wide.2 hs⟩⟩
 |.halt (.panic _) _,h=>h
theorem LF{ro:Option Nat}{m:Nat}{ops:Array Oper}{Q:Exit→Act→World→Prop}(hQ:¬LetsOut Q):∀(l:List Oper)(a:Act)(w:World),VQ l=true→wpList P ops Q l a w→wpListIn (GF ro) m P ops Q l a w
 | [],_,_,_,h=>h
 |o::l,a,w,hd,h=>by
   unfold VQ at hd
   simp only[Bool.and_eq_true] at hd
   have hnd:∀c,o.op≠.defer c:=fun c e=>by rw[e] at hd;exact absurd hd.1 (by simp)
   unfold wpList at h
   unfold wpListIn
   split
   · rename_i hw
     rw[if_pos hw] at h
     rcases h with h|h
     · refine⟨fun _ _=>trivial,?_⟩
       rw[Oper.semAt_eq _ _ _ hnd]
       exact VM (fun a w=>LF hQ l a w hd.2) _ h
     · exact absurd h.2 hQ
   · rename_i hw
     rw[if_neg hw] at h
     exact⟨fun _ _=>trivial,LF hQ l _ w hd.2 h⟩
theorem eW{ro:Option Nat}{m i:Nat}{l:List Oper}{a:Act}(hl:VQ l=true)(hn:¬LetsOut (Q.up n))(ha:St n σ ds a)(h:H3 P n l.toArray Q l σ ds w):(Code.region i l.toArray false).wpIn (GF ro) m P (Q.up n) a w :=
 wpIn_region_lit (LF hn l a w hl (h a ha))
theorem Zx:¬LetsOut (Q.up n):=fun h=>by
 obtain⟨a,w,h⟩:=h
 exact h
def VD(P:Program)(n:Nat)(ops:Array Oper)(Q:Bk)(l:List Oper)(σ:Bo)(ds:List Deferred)(w:World):Prop :=
 ∀a,St n σ ds a→wpListIn Fence.wide 3 P ops (Q.up n) l a w
theorem Yg{i:Nat}{l:List Oper}(h:VD P n l.toArray Q l σ ds w):HK P n (.region i l.toArray false) Q σ ds w:=fun a ha=>wpIn_wide.1 (wpIn_region_lit (h a ha))
variable{ops:Array Oper}{op:Op}{ty:TypeId}{pos:String}{af:Array Edge}{rest:List Oper}{d:Nat}
theorem Si(h:Q.q .normal σ ds w):VD P n ops Q [] σ ds w:=fun _ ha=>wpListIn_nil ⟨σ,ds,ha,h⟩
theorem Ge{v:Value}{w':World}(hd:Nat.blt d n=true)(hr:AO P σ op ty w v w')(h:VD P n ops Q rest (AL σ d v) ds w') :
   VD P n ops Q (⟨some d,op,ty,pos,af,none⟩::rest) σ ds w:=fun a ha =>
 wpListIn_plain rfl fun K hK=>⟨fun _ _=>trivial,by
   show Oper.uponIn _ _ _ _ _ _ _ ((Oper.semAt none _ _).run P w)
   rw[Oper.semAt_none,hr a.eval _ _ _ _ ha.ev]
   exact hK _ _ (h _ (ha.put hd v))⟩
theorem TZ{m l0:Nat}{g:Operand}{args:List Operand}{vs:List Value}{ts:Array TypeId}{R:Ending→World→Prop}(hd:Nat.blt d n=true)(hg:ev σ g=some (.func (.yield l0) #[] #[]))(ha:Jb σ args=some vs)(hy:YieldAt Fence.wide m P l0 vs.toArray w R)
   (h:∀e w',R e w'→∃v,e=.returned v∧VD P n ops Q rest (AL σ d v) ds w'):VD P n ops Q (⟨some d,.call {callee:=.value g,args:=args.toArray,argTypes:=ts},ty,pos,af,none⟩::rest) σ ds w:=fun a hs =>
 wpListIn_plain rfl fun K hK=>⟨fun _ _=>trivial,by
   obtain⟨fn,tmps,assign,body,h1,h2⟩:=hy
   have h3:=Fb hs.ev ha
   have he:(execOp a.eval ⟨some d,.call {callee:=.value g,args:=args.toArray,argTypes:=ts},ty,pos,af,none⟩).run P w=.ok (.round l0 fn tmps assign body) w:=by
     simp[execOp,resolve,hs.ev _ _ hg,Deferred.ofValue,invoke,h3,h1]
   show Oper.uponIn _ _ _ _ _ _ _ ((Oper.semAt none _ _).run P w)
   rw[Oper.semAt_none,he]
   refine⟨fun e=>(by cases e),h2.1,fun c cs _=>?_⟩
   obtain⟨e,w',hr,hc⟩:=h2.2 c cs (room_wide _)
   obtain⟨v,rfl,hv⟩:=h e w' hr
   exact⟨.returned v,w',hK _ _ (hv _ (hs.put hd v)),hc⟩⟩
def UY(P:Program)(fn:Func)(R:Value→World→Prop):Bk :=
 {q:=fun e σ ds w=>match e with|.normal|.ret=>∃D,ds=[{target:=.collected D,args:=#[]}]∧w.heap[D]?=some (.deferred (some []))∧∃v,UO P fn σ (w.putObj D (.deferred none)) v∧R v (w.putObj D (.deferred none))|_=>False,p:=fun _ _ _ _=>False}
theorem kK{f:FuncId}{fn:Func}{c:Code}{l:List Value}{R:Value→World→Prop}(hf:P.funcs[f]?=some fn)(hb:fn.body=some c)
   (hn:fn.ntmps=n) (hl:Nat.ble l.length n=true) (h:HK P n c (UY P fn R) (Io l 0) [] w):BF P f l.toArray w R:=by
 refine (callsIn_wide (n:=3)).1 (callsIn_of_wp_marks hf hb trivial (wpIn_wide.2 ?_))
 have h1:=h _ (J7 hl)
 rw[← hn] at h1
 intro b k cs
 obtain⟨e,a',w',hq,harr⟩:=h1 b k cs
 refine⟨e,a',w',?_,harr⟩
 have key:∀σ ds,St fn.ntmps σ ds a'→(∃D,ds=[{target:=.collected D,args:=#[]}]∧w'.heap[D]?=some (.deferred (some []))∧∃v,UO P fn σ (w'.putObj D (.deferred none)) v∧R v (w'.putObj D (.deferred none)))→LeavesInM Fence.wide 3 P fn a'.tmps (fun e w'=>∃v,e=.returned v∧R v w') a'.defers .returning w':=fun σ ds hs ⟨D,hD,hw,v,hv,hR⟩=>by
   rw[hs.defs,hD]
   exact⟨by simp,.inl ⟨D,_,rfl,run_takeDeferred hw,v,hv a'.tmps hs.val,v,rfl,hR⟩⟩
 cases e with
 |normal=>obtain⟨σ,ds,hs,h2⟩:=hq;exact key σ ds hs h2
 |ret=>obtain⟨σ,ds,hs,h2⟩:=hq;exact key σ ds hs h2
 |exit i=>obtain⟨σ,ds,hs,h2⟩:=hq;exact h2.elim
 |goto i=>obtain⟨σ,ds,hs,h2⟩:=hq;exact h2.elim
 |panic c=>obtain⟨σ,ds,hs,h2⟩:=hq;exact h2.elim
 |outgrown=>exact hq.elim
end
theorem rX{P:Program}{n:Nat}{X:Cx}{H:List HB}{R:List RB}{B:List FB}{Fs:List (World→Fq→Prop)}{fid:FuncId}{fn:Func}{c:Code}{l:List Value}{R0:Value→World→Prop}{w:World}{f:Fq}(hf:P.funcs[fid]?=some fn)(hb:fn.body=some c)(hn:fn.ntmps=n)(hl:Nat.ble l.length n=true)(hM:AX X w f H R B Fs)
   (h:AF P n (UY P fn R0) [] X R B Fs (.code c) [] (Io l 0) H):BF P fid l.toArray w R0:=kK hf hb hn hl (h w f hM)
end Go.SW
namespace Go.SP
open Go.SW Go.RowKit
def Ty.list:Ty→List T1
 |.nil=>[]
 |.var n r=>.var n::r.list
 |.con tx k r=>.con tx k::r.list
theorem Ty.list_cons(t:T1)(r:Ty):(t.cons r).list=t::r.list:=by cases t <;> rfl
theorem Ty.list_len:∀k:Ty,k.list.length=k.len
 |.nil=>rfl
 |.var _ r=>congrArg (· + 1) (Ty.list_len r)
 |.con _ _ r=>congrArg (· + 1) (Ty.list_len r)
theorem Ty.list_get:∀(k:Ty)(i:Nat),k.list[i]?=k.get i
 |.nil,_=>by simp[Ty.list,Ty.get]
 |.var _ _,0=>rfl
 |.con _ _ _,0=>rfl
 |.var _ r,i+1=>by simpa[Ty.list,Ty.get] using Ty.list_get r i
 |.con _ _ r,i+1=>by simpa[Ty.list,Ty.get] using Ty.list_get r i
def eN(t:T1)(l:List T1):T1:=l.foldl (fun t x=>.con G2 (x.cons t.one)) t
theorem Sf(t:T1)(l:List T1)(x:T1):eN t (l++[x])=.con G2 (x.cons (eN t l).one):=by simp[eN]
theorem MH(t u:T1)(r:Ty):HR (t.cons (u.cons r))=.con G2 (t.cons (HR (u.cons r)).one):=by cases t <;> cases u <;> rfl
theorem Pz(t:T1):HR t.one=t:=by cases t <;> rfl
theorem ZL:∀(n:Nat)(k:Ty)(t:T1),k.len=n+1→k.get n=some t→eN t (k.list.take n).reverse=HR k:=by
 intro n
 induction n with
 |zero =>
   intro k t hl hg
   obtain⟨u,r,rfl⟩:=Ty.cases1 k oM
   rw[T1.len_cons] at hl
   obtain rfl:=Ty.len0 (k:=r) oM
   have:u=t:=by cases u <;> (simp[T1.cons,Ty.get] at hg;exact hg)
   subst this
   rw[show (List.take 0 (u.cons Ty.nil).list).reverse=[] by simp]
   exact (Pz u).symm
 |succ n ih =>
   intro k t hl hg
   obtain⟨u,r,rfl⟩:=Ty.cases1 k oM
   rw[T1.len_cons] at hl
   have hg2:r.get n=some t:=by cases u <;> exact hg
   have h:=ih r t oM hg2
   obtain⟨v,r,rfl⟩:=Ty.cases1 r oM
   rw[MH,Ty.list_cons,List.take_succ_cons,List.reverse_cons,Sf,h]
abbrev mK(w:World)(f:Fq)(k:Ty):={x:Nat×T1×Option Addr×Nat // k.get x.1=some x.2.1∧Ah w f x.2.1.kids x.2.2.1 x.2.2.2}
def oQ{w:World}{f:Fq}{k:Ty}(x:mK w f k):Array Value:=#[.int .i64 (x.1.1:Int),tV x.1.2.1 x.1.2.2.1 x.1.2.2.2]
def ZB{w:World}{f:Fq}{k:Ty}(l:List (mK w f k)):List T1:=l.map fun x=>x.1.2.1
def gH(n0 b3:Nat)(W W':World):Prop:=∀k,k<n0→k≠b3→W'.heap[k]?=W.heap[k]?
def iv(i:Nat):Int:=(i:Int)-1
theorem bJ(i:Nat):iv (i+1)=(i:Int):=by unfold iv;omega
def nrm(n0:Nat)(V:World)(f:Fq):Fq:=fun b=>if b<n0 then f b else if (match V.heap[b]? with|some o=>o.isCells|none=>false) then f b else 0
theorem Cs.nrm{n0:Nat}{V:World}{f:Fq}{b off:Nat}{l:List Value}(h:Cs V f b off l):Cs V (nrm n0 V f) b off l:=fun j v hj=>by
 obtain⟨h1,h2⟩:=h j v hj
 refine⟨?_,h2⟩
 obtain⟨o,ho,hc⟩:=cells_of_cell h2
 unfold SP.nrm
 split
 · exact h1
 · simp only at ho
   rw[ho];simp only;rw[if_pos hc];exact h1
theorem Jd.nrm{n0:Nat}{V:World}{f:Fq}:∀(k:Ty)(b off:Nat),Jd V f k b off→Jd V (nrm n0 V f) k b off
 |.nil,_,_,_=>trivial
 |.var _ r,b,off,⟨⟨a,c,h⟩,h2⟩=>⟨⟨a,c,Cs.nrm h⟩,Jd.nrm r b _ h2⟩
 |.con _ k r,b,off,⟨⟨a,c,h,hl,hk⟩,h2⟩=>⟨⟨a,c,Cs.nrm h,hl,hk.imp id fun⟨b',off',e,hk⟩=>⟨b',off',e,Jd.nrm k b' off' hk⟩⟩,Jd.nrm r b _ h2⟩
theorem Ah.nrm{n0:Nat}{V:World}{f:Fq}{k:Ty}{a:Option Addr}{c:Nat}(h:Ah V f k a c):Ah V (nrm n0 V f) k a c:=⟨h.1,h.2.imp id fun⟨b,off,e,hk⟩=>⟨b,off,e,Jd.nrm k b off hk⟩⟩
theorem ZU{n0:Nat}{V:World}{f:Fq}{b:Nat}(h:b<n0):nrm n0 V f b=f b:=if_pos h
theorem J2{n0:Nat}{V:World}{f:Fq}{b:Nat}(h:f b=0):nrm n0 V f b=0:=by
 unfold nrm
 simp[h]
structure T4(w:World)(f:Fq)(b2 b3:Nat)(z:List Value)(TT:TypeId)(t:T1)(V:World)(f2:Fq)(a:Option Addr)(c:Nat):Prop where
 exm:CM (fun _=>False) w f V f2
 k3:AQ V b3 (tC t a c) TT
 k2:AQ V b2 z TT
 ty:Ah V f2 t.kids a c
 bnd:t.bnd
 z3:f2 b3=0∧f2 b2=0
 hz:∀r o,V.heap[r]?=some o→o.isCells=false→w.heap.size≤r→f2 r=0
theorem UL{M:Nat→Prop}{w V:World}{f f2:Fq}(h:CM M w f V f2):CM M w f V (nrm w.heap.size V f2):=⟨h.stp,fun b hb=>(ZU hb).trans (h.old b hb),fun b hb=>J2 (h.val b hb)⟩
theorem Zq{w V:World}{f2:Fq}:∀r o,V.heap[r]?=some o→o.isCells=false→w.heap.size≤r→nrm w.heap.size V f2 r=0:=fun r o ho hc hr=>by
 unfold nrm
 rw[if_neg (by omega),ho]
 simp[hc]
theorem CM.trans0{M:Nat→Prop}{w V V':World}{f f2 f3:Fq}(h:CM (fun _=>False) w f V f2)(h2:CM M V f2 V' f3)(hM:∀b,M b→w.heap.size≤b):CM (fun _=>False) w f V' f3 :=
 ⟨⟨h2.stp.os.trans h.stp.os,h2.stp.tape.trans h.stp.tape,h2.stp.output.trans h.stp.output,Nat.le_trans h.stp.size h2.stp.size,fun k hk _=>(h2.stp.block k (Nat.lt_of_lt_of_le hk h.stp.size) (fun hm=>by have:=hM k hm;omega)).trans (h.stp.block k hk (fun h=>h))⟩,
   fun b hb=>(h2.old b (Nat.lt_of_lt_of_le hb h.stp.size)).trans (h.old b hb),h2.val⟩
section
variable{w V V':World}{f f2 f3:Fq}{b2 b3:Nat}{z:List Value}{TT:TypeId}{t t':T1}{a a':Option Addr}{c c':Nat}
theorem T4.step(h:T4 w f b2 b3 z TT t V f2 a c)(h3:w.heap.size≤b3)(hne:b2≠b3)(hE:CM (fun b=>b=b3) V f2 V' f3)(hb:AQ V' b3 (tC t' a' c') TT)(hT:Ah V' f3 t'.kids a' c')(hbd:t'.bnd):T4 w f b2 b3 z TT t' V' (nrm w.heap.size V' f3) a' c' where
 exm:=UL (CM.trans0 h.exm hE fun b e=>e▸h3)
 k3:=hb
 k2:=(hE.stp.block b2 h.k2.lt hne).trans h.k2
 ty:=Ah.nrm hT
 bnd:=hbd
 z3:=⟨J2 ((hE.old _ h.k3.lt).trans h.z3.1),J2 ((hE.old _ h.k2.lt).trans h.z3.2)⟩
 hz:=Zq
theorem Ii{b:Nat}{l:List Value}{T:TypeId}(h:AQ V b l T){o:Obj}(ho:V.heap[b]?=some o)(hc:o.isCells=false):False:=by
 have h':V.heap[b]?=some (.cells l.toArray T):=h
 rw[h'] at ho;cases ho;cases hc
theorem T4.own{B:Nat}(hB:w.heap.size≤B){row:Option Nat}(h:T4 w f b2 b3 z TT t V f2 a c)(hg:V.grownBy V' row)(hr:∀r,row=some r→B≤r∧∃o:Obj,V.heap[r]?=some o∧o.isCells=false):T4 w f b2 b3 z TT t V' f2 a c:=by
 have hne:∀{b:Nat}{l:List Value}{T:TypeId},AQ V b l T→some b≠row:=fun hb e=>by
   obtain⟨_,o,ho,hc⟩:=hr _ e.symm
   exact Ii hb ho hc
 have hfr:∀r,row=some r→f2 r=0:=fun r e=>by
   obtain⟨h1,o,ho,hc⟩:=hr r e
   exact h.hz r o ho hc oM
 have hF:Jf V f2 V' f2:=fun b=>⟨Nat.le_refl _,fun k hk=>by
   have hlt:b<V.heap.size:=by
     rcases Nat.lt_or_ge b V.heap.size with hh|hh
     · exact hh
     · have:=h.exm.val b hh;omega
   refine El (hg.block b hlt fun e=>?_) k
   have:=hfr b e.symm;omega⟩
 exact {exm:=⟨⟨hg.os.trans h.exm.stp.os,hg.tape.trans h.exm.stp.tape,hg.output.trans h.exm.stp.output,Nat.le_trans h.exm.stp.size hg.size,fun k hk hm=>(hg.block k (Nat.lt_of_lt_of_le hk h.exm.stp.size) (fun e=>by have:=(hr k e.symm).1;omega)).trans (h.exm.stp.block k hk hm)⟩,h.exm.old,fun b hb=>h.exm.val b (Nat.le_trans hg.size hb)⟩,
         k3:=(hg.block _ h.k3.lt (hne h.k3)).trans h.k3,
         k2:=(hg.block _ h.k2.lt (hne h.k2)).trans h.k2,
         ty:=Ah.mono _ _ _ _ h.ty hF,
         bnd:=h.bnd,z3:=h.z3,
         hz:=fun r o ho hc hw=>by
           rcases Nat.lt_or_ge r V.heap.size with hh|hh
           · by_cases e:some r=row
             · exact hfr r e.symm
             · rw[hg.block r hh e] at ho;exact h.hz r o ho hc hw
           · exact h.exm.val r hh}
end
theorem KeepsFrom.of_exm{B b3:Nat}{V V':World}{f2 f3:Fq}(hE:CM (fun b=>b=b3) V f2 V' f3){l:List Value}{T:TypeId}(hb:AQ V b3 l T):KeepsFrom B V V' :=
 ⟨hE.stp.size,fun k o _ ho hc=>(hE.stp.block k (Array.getElem?_eq_some_iff.1 ho).1 (fun e=>by subst e;exact Ii hb ho hc)).trans ho⟩
theorem gH.of_exm{n0 b3:Nat}{V V':World}{f2 f3:Fq}(hE:CM (fun b=>b=b3) V f2 V' f3)(hn:n0≤V.heap.size):gH n0 b3 V V':=fun k hk hne=>hE.stp.block k oM hne
theorem YJ{w:World}{f:Fq}{b:Nat}{x t:T1}{xa ta:Option Addr}{xc tc:Nat}(h:Cs w f b 0 (tC x xa xc++tC t ta tc))(hx:Ah w f x.kids xa xc)(ht:Ah w f t.kids ta tc):Ah w f (x.cons t.one) (some ⟨b,0,none⟩) 2:=by
 have h1:Bl w f Ty.nil []:=rfl
 have h2:=Bl.snoc (t:=t) ht (Bl.snoc (t:=x) hx h1)
 have e:(Ty.nil.snoc x).snoc t=x.cons t.one:=by
   show (x.one).app t.one=_
   rw[T1.one_app]
 rw[e] at h2
 exact Bl.toF h2 h (by simp[T1.len_cons,T1.one,Ty.len])
theorem T4.frz{w V:World}{f f2:Fq}{b2 b3 b5:Nat}{z l:List Value}{TT T:TypeId}{t:T1}{a:Option Addr}{c:Nat}(h:T4 w f b2 b3 z TT t V f2 a c)(h5:AQ V b5 l T)(hn2:b5≠b2)(hn3:b5≠b3)(hw:w.heap.size≤b5) :
   T4 w f b2 b3 z TT t V (fun b=>if b=b5 then max l.length (f2 b) else f2 b) a c∧Cs V (fun b=>if b=b5 then max l.length (f2 b) else f2 b) b5 0 l:=by
 have hF:Jf V f2 V (fun b=>if b=b5 then max l.length (f2 b) else f2 b):=fun b=>⟨by simp only;split <;> omega,fun _ _=>rfl⟩
 refine⟨{exm:=⟨h.exm.stp,fun b hb=>by rw[if_neg (by omega)];exact h.exm.old b hb,fun b hb=>by have:=h5.lt;rw[if_neg (by omega)];exact h.exm.val b hb⟩,
           k3:=h.k3,k2:=h.k2,ty:=Ah.mono _ _ _ _ h.ty hF,bnd:=h.bnd,z3:=by rw[if_neg (Ne.symm hn3),if_neg (Ne.symm hn2)];exact h.z3,
           hz:=fun r o ho hc hw=>by
             rw[if_neg (fun e=>by subst e;exact Ii h5 ho hc)]
             exact h.hz r o ho hc hw},fun j v hj=>?_⟩
 have hlt:j<l.length:=(List.getElem?_eq_some_iff.1 hj).1
 refine⟨by simp only[if_true];omega,?_⟩
 have h5':V.heap[b5]?=some (.cells l.toArray T):=h5
 simp[World.cell?,h5',hj]
theorem NS{P:Program}{σ:Bo}{w:World}{ty T e:TypeId}{x hi:Operand}{k i:Nat}{z:Int}{k1:IntKind}{a:Option Addr}{len cap:Nat}(hz:z=(i:Int))(hx:ev σ x=some (.slice a len cap))(hhi:ev σ hi=some (.int k1 z))(hs:JV P T=some (e,k))(hle:i≤cap):AO P σ (.slice T x none (some hi) none) ty w (.slice a i cap) w:=by
 subst hz
 exact UF hx hhi hs hle
theorem T4.fin{w V V':World}{f f2:Fq}{b2 b3 D:Nat}{z:List Value}{TT:TypeId}{t:T1}{a:Option Addr}{c:Nat}(h:T4 w f b2 b3 z TT t V f2 a c)(h2:w.heap.size≤b2)(hD:w.heap.size≤D)(hK:V.heap[D]?=some (.deferred (some [])))(hC:GS b2 V V') :
   CM (fun _=>False) w f (V'.putObj D (.deferred none)) f2∧Ah (V'.putObj D (.deferred none)) f2 t.kids a c∧V'.heap[D]?=some (.deferred (some []))∧D≠b2:=by
 have hne:D≠b2:=fun e=>by subst e;exact Ii h.k2 hK rfl
 have hf:f2 D=0:=h.hz D _ hK rfl hD
 have hblk:∀j,j≠D→j≠b2→(V'.putObj D (.deferred none)).heap[j]?=V.heap[j]?:=fun j h1 h3=>(World.putObj_heap_other h1).trans (hC.block j h3)
 have hsz:(V'.putObj D (.deferred none)).heap.size=V.heap.size:=by rw[World.putObj_size,hC.size]
 refine⟨⟨⟨hC.os.trans h.exm.stp.os,hC.tape.trans h.exm.stp.tape,hC.output.trans h.exm.stp.output,by rw[hsz];exact h.exm.stp.size,fun j hj hm=>(hblk j oM oM).trans (h.exm.stp.block j hj hm)⟩,h.exm.old,fun b hb=>h.exm.val b (by rw[hsz] at hb;exact hb)⟩,?_,(hC.block D hne).trans hK,hne⟩
 refine Ah.mono _ _ _ _ h.ty fun b=>⟨Nat.le_refl _,fun q hq=>El (hblk b (fun e=>?_) (fun e=>?_)) q⟩
 · rw[e,hf] at hq;omega
 · rw[e,h.z3.2] at hq;omega
end Go.SP
namespace Go.SW
open Go.RowKit
theorem AX.perm{X:Cx}{w:World}{f:Fq}{H H':List HB}{R:List RB}{B:List FB}{Fs:List (World→Fq→Prop)}(h:AX X w f H R B Fs)(hp:H'.Perm H):AX X w f H' R B Fs:=by
 have hp2:(CP H' R).Perm (CP H R):=(hp.map _).append_right _
 exact {h with
         blk:=fun e he=>h.blk e (hp.mem_iff.1 he),
         nd:=hp2.nodup_iff.2 h.nd,
         own:=fun b hb=>h.own b (hp2.mem_iff.1 hb),
         hnw:=fun e he=>h.hnw e (hp.mem_iff.1 he)}
end Go.SW
namespace Go.SP
open Go.SW Go.RowKit
abbrev nL(n:Nat)(s:CS)(e:Bg)(op ln co:Int)(tx:List UInt8)(nm:Int)(kids:Nd)(x:(T1×Option Addr×Nat)×CS):Prop:=Co n s e op ln co tx nm kids=.ok (x.1.1,x.2)∧x.1.1.bnd∧DR x.2∧x.2.fresh+1≤s.fresh+200002*(kids.size+1)
def Wg(P:Program)(fid:FuncId)(TE T TS:TypeId)(n:Nat):Prop:=∀(w:World)(f:Fq)(_:Vl w f)(A:Ad)(_:A.ok)(s:CS)(_:Au T TS A s w f)(_:∀b,BB A b→f b=0)(_:DR s)(op ln co nm:Int)(tx:List UInt8)(kids:Nd)(na:Option Addr)(nc:Nat)(e:Bg)(ea:Option Addr),
 kids.size<n→kids.size≤200000→GY op kids→AK w f kids na nc→Gg e→AN w f e ea→s.fresh+200002*(kids.size+1)≤800000000000 →
 BQ P fid #[.pointer (some ⟨A.cb,0,none⟩),nV op ln co tx nm kids na nc,.pointer ea] w (Fl (α:=(T1×Option Addr×Nat)×CS) (fun x=>tV x.1.1 x.1.2.1 x.1.2.2) (nL n s e op ln co tx nm kids) (BB A) (fun x=>Au T TS A x.2) (fun x=>[fun w f=>Ah w f x.1.1.kids x.1.2.1 x.1.2.2]) w f)
   (PanE TE (BB A) (fun er=>Co n s e op ln co tx nm kids=.error er) w f)
section
variable{p:Mt}{s s1 s2 s3 s4 s5:CS}{e e5:Bg}{op ln co nm bop bln bco bnm o1 l1 c1 m1:Int}{tx btx x1:List UInt8}{k bk r pk rest:Nd}{d:Ty}{q t t0 rt pt:T1}{n:Nat}
theorem RO:EH p e s k=(match EH p e s k with|.error x=>.error x|.ok (l,s3)=>.ok (Ty.nil.app l,s3)):=by
 cases EH p e s k with
 |error x=>rfl
 |ok q=>rfl
theorem Ua(h:p s e op ln co tx nm k=.ok (q,s5)) :
   (match EH p e s (.cons op ln co tx nm k r) with|.error x=>.error x|.ok (l,s3)=>.ok (d.app l,s3):RI (Ty×CS))=(match EH p e s5 r with|.error x=>.error x|.ok (l,s3)=>.ok ((d.snoc q).app l,s3)):=by
 rw[EH,h]
 simp only
 cases EH p e s5 r with
 |error x=>rfl
 |ok z=>obtain⟨l,s3⟩:=z;simp only[Ty.snoc_app]
theorem SY{a:T1}{ar:Ty}(h:p s e op ln co tx nm k=.ok (q,s5))(h2:F2 s5 a q ln co=.ok s4):G6 p e s (a.cons ar) (.cons op ln co tx nm k r)=G6 p e s4 ar r:=by
 rw[G6,h];simp only;rw[T1.hd_cons,h2];simp only;rw[T1.tl_cons]
theorem VU(h:p s e op ln co tx nm k=.ok (q,s5))(h2:F2 (AB s5).2 t (.con G2 (q.cons (AB s5).1.one)) ln co=.ok s4):Ko p e s t (.cons op ln co tx nm k r)=Ko p e s4 (AB s5).1 r:=by
 rw[Ko,h];simp only;rw[h2]
theorem TW(h1:C6 n s e op ln co tx nm pk=.ok (q,e5,s1))(h2:F2 s1 pt q ln co=.ok s2)(h3:p s2 e5 bop bln bco btx bnm bk=.ok (rt,s3))(h4:F2 s3 t0 rt bln bco=.ok s4) :
   DN n p e pt s (some t0) (.cons o1 l1 c1 x1 m1 (.cons op ln co tx nm pk (.cons bop bln bco btx bnm bk rest)) r)=DN n p e pt s4 (some t0) r:=by
 rw[DN];simp only;rw[h1];simp only;rw[h2];simp only;rw[h3];simp only;rw[h4]
theorem Ut(h1:C6 n s e op ln co tx nm pk=.ok (q,e5,s1))(h2:F2 s1 pt q ln co=.ok s2)(h3:p s2 e5 bop bln bco btx bnm bk=.ok (rt,s3)) :
   DN n p e pt s none (.cons o1 l1 c1 x1 m1 (.cons op ln co tx nm pk (.cons bop bln bco btx bnm bk rest)) r)=DN n p e pt s3 (some rt) r:=by
 rw[DN];simp only;rw[h1];simp only;rw[h2];simp only;rw[h3]
end
theorem CK{k:Nd}{m:Nat}(h:k.wfm m)(hm:2≤m):∃op ln co tx nm k2 r,k=.cons op ln co tx nm k2 r:=by
 cases k with
 |nil=>rcases h with h|h <;> omega
 |cons op ln co tx nm k2 r=>exact⟨op,ln,co,tx,nm,k2,r,rfl⟩
theorem AK.rest{w:World}{f:Fq}{op ln co nm:Int}{tx:List UInt8}{k r:Nd}{a:Option Addr}{c:Nat}(h:AK w f (.cons op ln co tx nm k r) a c):AK w f r (D4 a c 6) (c-1):=by
 obtain⟨h1,h2⟩:=h
 have h1:r.len+1≤c:=h1
 refine⟨oM,?_⟩
 rcases h2 with h2|⟨b,off,ha,hg⟩
 · cases h2
 · cases r with
   |nil=>exact .inl rfl
   |cons o2 l2 c2 x2 m2 k2 r2 =>
     simp only[Nd.len] at h1
     refine .inr ⟨b,off+6,?_,hg.2⟩
     rw[D4,if_neg (by omega),ha]
     rfl
theorem Na{P:Program}{σ:Bo}{w:World}{ty T e:TypeId}{x lo:Operand}{k len m c:Nat}{a:Option Addr}(hl:len=m+1)(hx:ev σ x=some (.slice a len c))(hlo:ev σ lo=some (.int .i64 1))(hs:JV P T=some (e,k)):AO P σ (.slice T x (some lo) none none) ty w (.slice (D4 a c k) m (c-1)) w:=by
 subst hl
 exact Vf hx hlo hs
theorem Ty.last_get:∀{k:Ty}{m:Nat},k.len=m+1→k.get m=some k.last
 |.nil,m,h=>by simp[Ty.len] at h
 |.var n .nil,m,h=>by obtain rfl:m=0:=(by simpa[Ty.len] using h.symm);rfl
 |.con tx k .nil,m,h=>by obtain rfl:m=0:=(by simpa[Ty.len] using h.symm);rfl
 |.var n (.var n2 r),m,h=>by
   obtain⟨m,rfl⟩:∃q,m=q+1:=⟨m-1,by simp only[Ty.len] at h;omega⟩
   exact Ty.last_get (k:=.var n2 r) (by simp only[Ty.len] at h ⊢;omega)
 |.var n (.con tx2 k2 r),m,h=>by
   obtain⟨m,rfl⟩:∃q,m=q+1:=⟨m-1,by simp only[Ty.len] at h;omega⟩
   exact Ty.last_get (k:=.con tx2 k2 r) (by simp only[Ty.len] at h ⊢;omega)
 |.con tx k (.var n2 r),m,h=>by
   obtain⟨m,rfl⟩:∃q,m=q+1:=⟨m-1,by simp only[Ty.len] at h;omega⟩
   exact Ty.last_get (k:=.var n2 r) (by simp only[Ty.len] at h ⊢;omega)
 |.con tx k (.con tx2 k2 r),m,h=>by
   obtain⟨m,rfl⟩:∃q,m=q+1:=⟨m-1,by simp only[Ty.len] at h;omega⟩
   exact Ty.last_get (k:=.con tx2 k2 r) (by simp only[Ty.len] at h ⊢;omega)
section
variable{s:CS}{e:Bg}{op ln co nm:Int}{tx:List UInt8}{k r:Nd}{d:Ty}
theorem Nb(hr:r≠.nil):(d.app (FD s e (.cons op ln co tx nm k r)).1,(FD s e (.cons op ln co tx nm k r)).2)=((d.snoc (AB s).1).app (FD (AB s).2 (if op==22 then ⟨tx,(AB s).1,[]⟩::e else e) r).1,(FD (AB s).2 (if op==22 then ⟨tx,(AB s).1,[]⟩::e else e) r).2):=by
 cases r with
 |nil=>exact absurd rfl hr
 |cons o2 l2 c2 x2 m2 k2 r2 =>
   rw[FD]
   · rw[Ty.snoc_app]
   · intro h;cases h
theorem Nd.last_step(hr:r≠.nil):(Nd.cons op ln co tx nm k r).last=r.last:=by
 cases r with
 |nil=>exact absurd rfl hr
 |cons=>rfl
end
theorem Nd.ne_nil{r:Nd}(h:0<r.len):r≠.nil:=fun e=>by rw[e] at h;exact absurd h dC
theorem uL{k:Nd}(h:GY 6 k):k.wfm 0:=by simpa[GY] using h
theorem uP{k:Nd}(h:GY 7 k):k.wfm 4:=by simpa[GY] using h
theorem uZ{k:Nd}(h:GY 8 k):0<k.len∧k.wfm 0:=by simpa[GY] using h
theorem tP{k:Nd}(h:GY 9 k):k.wfm 6:=by simpa[GY] using h
theorem rU{k:Nd}(h:GY 10 k):k.wfm 6:=by simpa[GY] using h
theorem qW{k:Nd}(h:GY 11 k):k.wfm 7:=by simpa[GY] using h
theorem pL{k:Nd}(h:GY 12 k):0<k.len∧k.wfm 0:=by simpa[GY] using h
theorem rP{k:Nd}(h:GY 13 k):k.wfm 0:=by simpa[GY] using h
theorem sN{k:Nd}(h:GY 14 k):k.wfm 5:=by simpa[GY] using h
theorem qL{k:Nd}(h:GY 15 k):k.wfm 5:=by simpa[GY] using h
theorem rE{k:Nd}(h:GY 16 k):k.wfm 3:=by simpa[GY] using h
theorem rF{op:Int}{k:Nd}(h:GY op k)(h1:(op==1)=false)(h2:(op==2)=false)(h3:(op==3)=false)(h4:(op==4)=false)(h5:(op==5)=false)(h6:(op==6)=false)(h7:(op==7)=false)(h8:(op==8)=false)(h9:(op==9)=false)(h10:(op==10)=false)(h11:(op==11)=false)(h12:(op==12)=false)(h13:(op==13)=false)(h14:(op==14)=false)(h15:(op==15)=false)(DW:(op==16)=false):k.wfm 3:=by
 simp only[beq_eq_false_iff_ne,ne_eq] at *
 unfold GY at h
 rcases h with h|h|h|h|h|h|h|h|h
 · omega
 · exact absurd h.1 h6
 · exact absurd h.1 h7
 · rcases h.1 with h|h
   · exact absurd h h8
   · exact absurd h h12
 · rcases h.1 with h|h
   · exact absurd h h9
   · exact absurd h h10
 · exact absurd h.1 h11
 · exact absurd h.1 h13
 · rcases h.1 with h|h
   · exact absurd h h14
   · exact absurd h h15
 · exact h.2
theorem Z2:∀(n:Nat)(k:Ty),k.len≤n→k.bnd→(HR k).bnd:=by
 intro n
 induction n with
 |zero=>intro k hk _;obtain rfl:=Ty.len0 (k:=k) oM;exact B7 0
 |succ n ih =>
   intro k hk hb
   cases hk0:k.len with
   |zero=>obtain rfl:=Ty.len0 hk0;exact B7 0
   |succ m =>
     obtain⟨t,r,rfl⟩:=Ty.cases1 k oM
     rw[T1.len_cons] at hk
     obtain⟨hb1,hb2⟩:=T1.bnd_cons.1 hb
     cases hr:r.len with
     |zero=>obtain rfl:=Ty.len0 hr;exact (Pz t).symm▸hb1
     |succ m2 =>
       have:=ih r oM hb2
       obtain⟨u,r,rfl⟩:=Ty.cases1 r oM
       rw[MH]
       exact D0 dC (by simp[T1.len_cons,T1.one,Ty.len]) (T1.bnd_cons.2 ⟨hb1,GK this⟩)
def Nd.txb:Nd→Prop
 |.nil=>True
 |.cons _ _ _ tx _ k r=>tx.length≤100000∧k.txb∧r.txb
def Oh(datas:List (List UInt8×Int))(tx:List UInt8)(kids:Nd):Bool :=
 if DG Hy ([32]++tx++[32]) then (kids.len:Int)==0
 else if tx==G2 then (kids.len:Int)==2
 else if DG P7 ([32]++tx++[32]) then true
 else match BZ datas tx with|some c=>c==(kids.len:Int)|none=>false
def Dd(datas:List (List UInt8×Int))(vars:List (List UInt8×T1))(op ln co:Int)(tx:List UInt8)(kids:Nd):RI T1 :=
 if op==31 then (match BZ vars tx with
   |some t=>.ok t
   |none=>.error (ln,co,11))
 else if Oh datas tx kids then (match Gw datas vars kids with|.error x=>.error x|.ok k=>.ok (.con tx k)) else .error (ln,co,11)
section
variable{datas:List (List UInt8×Int)}{vars:List (List UInt8×T1)}{op ln co nm:Int}{tx:List UInt8}{k r:Nd}{d:Ty}{t:T1}{er:Er}
theorem Kg:Gw datas vars (.cons op ln co tx nm k r)=(match Dd datas vars op ln co tx k with
   |.error x=>.error x
   |.ok t=>match Gw datas vars r with
     |.error x=>.error x
     |.ok l=>.ok (t.cons l)):=rfl
theorem MZ:Gw datas vars k=(match Gw datas vars k with|.error x=>.error x|.ok l=>.ok (Ty.nil.app l)):=by cases Gw datas vars k <;> rfl
theorem GR(h:Dd datas vars op ln co tx k=.ok t):(match Gw datas vars (.cons op ln co tx nm k r) with|.error x=>.error x|.ok l=>.ok (d.app l):RI Ty)=(match Gw datas vars r with|.error x=>.error x|.ok l=>.ok ((d.snoc t).app l)):=by
 rw[Kg,h]
 simp only
 cases Gw datas vars r with
 |error x=>rfl
 |ok z=>simp only[Ty.snoc_app]
theorem J8(h:Dd datas vars op ln co tx k=.error er):Gw datas vars (.cons op ln co tx nm k r)=.error er:=by rw[Kg,h]
end
theorem EP{α:Type}(g:α→Value)(n:List UInt8):∀l:List (List UInt8×α),FC (l.map fun p=>(p.1,g p.2)) n=(BZ l n).map g
 | []=>rfl
 |(k,v)::l=>by
   simp only[List.map_cons,FC,BZ]
   by_cases h:k=n
   · subst h;simp
   · have e1:(k==n)=false:=by simpa using h
     have e2:(n==k)=false:=by simpa using fun e:n=k=>h e.symm
     rw[e1,e2];simpa using EP g n l
def N9(v:Value)(vars:List (List UInt8×T1))(w:World):Prop:=(v=.map none∧vars=[])∨∃m,v=.map (some m)∧Ci CE w m (vars.map fun p=>(p.1,tV p.2 none 0))∧KP (vars.map fun p=>(p.1,tV p.2 none 0))∧∀n t,BZ vars n=some t→∃q,t=.var q
theorem N9.keep{v:Value}{vars:List (List UInt8×T1)}{w w':World}{f f':Fq}(h:N9 v vars w)(hE:CM (fun _=>False) w f w' f'):N9 v vars w' :=
 h.imp id fun⟨m,h1,h2,h3⟩=>⟨m,h1,h2.heap (hE.stp.block m h2.lt (fun h=>h)),h3⟩
theorem iZ{P:Program}{σ:Bo}{w:World}{ty T k e:TypeId}{x y:Operand}{z:Value}{a:List UInt8}(hx:ev σ x=some (.map none))(hy:ev σ y=some (S a))(hT:Gs P T=some (k,e))(hk:P.underlying k=some CE.desc)(hz:eX P e z):AO P σ (.lookup T x y true) ty w (.tuple #[z,.bool false]) w:=fun ρ _ _ _ _ hρ=>by
 have hu:=Kd hT
 obtain⟨i,hi,hz⟩:=Ri hz
 have hck:=fun b=>CE.chk P k w a b hk
 have hck2:∀b,(Instr.checkKey b 10000 k (S a)).run P w=.ok () w:=hck
 simp[execOp,hρ _ _ hx,hρ _ _ hy,Instr.lookup,run_underlying hu,hck2,Instr.findKey,run_underlying hk,Instr.findNow,zeroValue,typeInfo,hi,hz]
def nZ(P:Program)(G:World→Fq→Prop)(fid:FuncId)(TE T TS:TypeId)(n:Nat):Prop:=∀(w:World)(f:Fq)(_:Vl w f)(A:Ad)(s:CS)(_:Au T TS A s w f)(_:DR s)(_:G w f)(op ln co nm:Int)(tx:List UInt8)(kids:Nd)(na:Option Addr)(nc:Nat)(vv:Value)(vars:List (List UInt8×T1)),
 kids.size<n→kids.size≤200000→tx.length≤100000→kids.txb→N9 vv vars w→AK w f kids na nc →
 BQ P fid #[.pointer (some ⟨A.cb,0,none⟩),nV op ln co tx nm kids na nc,vv] w (BV (α:=T1×Option Addr×Nat) (fun x=>tV x.1 x.2.1 x.2.2) (fun x=>Dd s.datas vars op ln co tx kids=.ok x.1∧x.1.bnd) (fun x=>[fun w f=>Ah w f x.1.kids x.2.1 x.2.2]) w f)
   (PanE TE (fun _=>False) (fun er=>Dd s.datas vars op ln co tx kids=.error er) w f)
end Go.SP
