/- What it rests on, part 3. -/
import Derived.Test.YtegedalegfadgaaGreatDoorGc2
import Derived.RangeFuncNested
import Derived.RangeFuncCalls
import Derived.RangeFuncLeaves
set_option linter.unusedVariables false
set_option linter.unusedSimpArgs false
namespace Go.Proofs.YtegedalegfadgaaGreatDoor
open Go.SW Go.RowKit Go.Proofs.Tryz
theorem MC:OF prog 34=some (55,6,72,[.int .i64 0,.int .i64 0,.int .i64 0,.string ⟨#[]⟩,.int .i64 0,.slice none 0 0]):=kR
theorem fP:BV prog 8:=Ao func8 kR kR
theorem fB:BV prog 9:=Ao func9 kR kR
theorem D2:BV prog 10:=Ao func10 kR kR
theorem mF:BV prog 11:=Ao func11 kR kR
theorem iY:BV prog 12:=Ao func12 kR kR
theorem AO:BV prog 29:=Ao func29 kR kR
theorem H8:BV prog 30:=Ao func30 kR kR
theorem YY:BV prog 31:=Ao func31 kR kR
theorem Tu:BV prog 32:=Ao func32 kR kR
theorem Zy:BV prog 33:=Ao func33 kR kR
theorem Bq:BV prog 34:=Ao func34 kR kR
theorem iI:BV prog 35:=Ao func35 kR kR
theorem Om:BV prog 36:=Ao func36 kR kR
theorem KY:BV prog 37:=Ao func37 kR kR
theorem DC:BV prog 38:=Ao func38 kR kR
theorem ZD:BV prog 39:=Ao func39 kR kR
theorem TV:BV prog 40:=Ao func40 kR kR
theorem KT:BV prog 63:=Ao func63 kR kR
theorem Jm:BV prog 64:=Ao func64 kR kR
theorem mO:BV prog 65:=Ao func65 kR kR
theorem nI:BV prog 91:=Ao func91 kR kR
theorem Ze:BV prog 92:=Ao func92 kR kR
theorem Ug:BV prog 93:=Ao func93 kR kR
theorem Qv:BV prog 94:=Ao func94 kR kR
theorem PO:BV prog 117:=Ao func117 kR kR
theorem Qk:BV prog 118:=Ao func118 kR kR
theorem cG:FM prog 42 0=some 0:=kR
theorem Qe:FM prog 80 0=some 0:=kR
theorem VG:FM prog 80 1=some 1:=kR
theorem Wd:FM prog 80 2=some 3:=kR
theorem IU:FM prog 80 3=some 4:=kR
theorem Jb:FM prog 82 0=some 0:=kR
theorem IJ:FM prog 82 1=some 5:=kR
theorem gR:Nt prog 55=some [(0,1),(1,2),(3,1),(4,1),(5,1)]:=kR
theorem Gq:Kg prog 44=some (82,6):=kR
theorem iN:oQ prog 42=true:=kR
theorem rM:Bf prog 42=some (true,2):=kR
theorem NJ:Bf prog 44=some (false,1):=kR
theorem Lr:Bf prog 82=some (true,6):=kR
theorem oY:Io prog 34=some [.slice none 0 0]:=kR
theorem pI:Io prog 42=some [.int .i64 0,.int .i64 0]:=kR
theorem P5:Io prog 82=some [.int .i64 0,.int .i64 0,.int .i64 0,.int .i64 0,.string ⟨#[]⟩,.slice none 0 0]:=kR
end Go.Proofs.YtegedalegfadgaaGreatDoor
namespace Go.SW
open Go.RowKit
section
variable{P:Program}{n:Nat}{Q:Bm}{ds:List Deferred}{X:Cx}{R:List RB}{B:List FB}{Fs:List (World→Fq→Prop)}{fs:List Fr}{σ:Br}{H Hk:List HB}{l:List Oper}
variable {id:Nat}
theorem Dp(ix:List Nat)(hm:P.follows .mixedOrders=true)(t:OT)(hk:MA H ix=some Hk)(hok:(t.ok l.toArray true (Array.replicate l.length false)&&(t.even true l.length&&Region.noSelect l.toArray))=true) 
   (h:D6 P n (Oi P n Q fs) ds X R B Fs l Hk B (λ_=>True) true t σ H) (hpi:PI Q:=by exact λ_ _ _ _ _ h=>h):AF P n Q ds X R B Fs (.code (.region id l.toArray true)) fs σ H:=by
 simp only[Bool.and_eq_true] at hok;exact Mx (λ_=>True) (λ_ _ _ _=>trivial) ix hm t hk hok.1 hok.2.1 hok.2.2 hpi h
theorem Ax{B0:List FB}{k:OT}(ix:List Nat)(hk:MA H ix=some Hk)(h:D6 P n Q ds X R B0 Fs l Hk B0 (λ_=>True) true k σ H):AF P n (Wh P n l Q (Kp Hk B0 (λ_=>True)) k) ds X R B0 Fs (.out .normal) [] σ H :=
 Bj ix (λ_ _ _ _=>trivial) hk (λ_ h=>h) h
theorem B5{k:MU}(φ:World→Fq→Prop)(h1:∀w f,AW X w f H R B Fs→φ w f)(hm:GC φ)(h:AF P n Q ds X R B (φ::Fs) k fs σ H):AF P n Q ds X R B Fs k fs σ H:=λw f hM =>
 h w f (hM.more (B':=[]) (F':=[φ]) (λ_ h=>by cases h) (A2.mem ⟨h1 w f hM,tQ⟩) (Af.mem ⟨hm,tQ⟩))
variable{all r:List Oper}{ty T:TypeId}{pos:String}{af:Array Edge}{g:Option (Nat×Bool)}{d:Nat}{op:Op}{fid:FuncId}{args:Array Value}
theorem D4{c:Value}(hg:gd all σ g=some true)(hd:Nat.blt d n=true)(he:∀w,Enters P σ op ty w fid args)(hc:∀w f,AW X w f H R B Fs→BC P fid args w λv w'=>v=c∧AY w w')
   (h:AF P n Q ds X R B Fs (.ops all r) fs (AL σ d c) H):AF P n Q ds X R B Fs (.ops all (⟨some d,op,ty,pos,af,g⟩::r)) fs σ H :=
 BA (α:=Unit) (val:=λ_=>c) (q:=λ_=>True) (F':=λ_=>[]) hg hd he (λw f hM=>(hc w f hM).mono λ_ _ ⟨h1,h2⟩=>⟨(),f,h1,tQ,CR.of_ext h2 hM.val,tQ⟩) (λ_=>trivial) (λ_ _=>h)
end
theorem oE{α:Type}{p:α→Prop}{a:α}(h:p a):∀e,e∈[a]→p e:=λe he=>by
 cases he with
 |head=>exact h
 |tail _ h=>cases h
end Go.SW
namespace Go.Proofs.YtegedalegfadgaaGreatDoor
open Go.SW Go.SP Go.RowKit Go.Proofs.Tryz
def xR:Eh:=⟨[],[(44,82,6),(34,55,6)],[],[],[(82,true,6)],[(82,[.int .i64 0,.int .i64 0,.int .i64 0,.int .i64 0,.string ⟨#[]⟩,.slice none 0 0]),(55,[.int .i64 0,.int .i64 0,.int .i64 0,.string ⟨#[]⟩,.int .i64 0,.slice none 0 0])],[],[]⟩
theorem Qx:xR.Ok prog:=⟨tQ,(And.intro Gq (And.intro FF tQ)),tQ,tQ,(And.intro Lr tQ),(And.intro P5 (And.intro GJ tQ)),tQ,tQ⟩
def D5(w:World)(f:Fq):Prop:=∀w' f',J1 w f w' f'→Gl w'
theorem D5.mono:GC (λw f=>D5 w f):=λ_ _ _ _ h hF w' f' hF'=>h w' f' (hF.trans hF')
variable {f:Fq}{w:World}
theorem D5.gl(h:D5 w f):Gl w:=h w f (J1.refl _ _)
theorem HF(fid:Nat)(he:BV prog fid)(m:AM→Fo→R N)(D:AM→Fo→Prop)(hm:∀ (w:World) (f:Fq) (_:Vl w f) (_:D5 w f) (t:AM) (k:Fo) (a:Option Addr) (c:Nat),D t k→Bx w f k a c→BS prog fid #[fV t a k.len c] w (ID (m t k) w f) (IK 42 (m t k) w f))(w:World)(f:Fq)(hv:Vl w f)(hJ:D5 w f)(l:Fo)(la:Option Addr)(lc:Nat)(hD:l.all D)(hlen:l.len≤100000)(hL:Bx w f l la lc) :
  BS prog 10 #[.slice la l.len lc,.func (.func fid) #[] #[]] w (Z8 (α:=Nd×List Value) 55 6 (λx=>x.1.len) (λx=>x.2) (λx=>AN m l=.ok x.1) (λx=>[λw f=>Cj w f x.1 x.2]) w f) (Sx 42 (λe=>AN m l=.error e) w f):=by
 refine Nl (X:=X0 w f) (H:=[]) (R:=[]) (B:=[]) (Fs:=[λw f=>Bx w f l la lc,λw f=>D5 w f]) (f:=f) func10 rfl rfl rfl (C8 hv ⟨hL,hJ,tQ⟩ ⟨Bx.mono,D5.mono,tQ⟩)<|go Qx 19 [] (λ_=>Rd 55 6 ?_);refine HK (α:=Nat×Fo×Nd×List Value×Option Addr×Nat) (λx=>x.2.1.len) (λx=>x.1+x.2.1.len=l.len∧x.2.2.1.len=x.1∧(AN m l=match AN m x.2.1 with|.error e=>.error e|.ok b=>.ok (x.2.2.1.app b))∧x.2.1.all D) (λx=>(E5 1 (.func (.func fid) #[] #[]) 5 (.slice x.2.2.2.2.1 x.1 x.2.2.2.2.2) 8 (.slice la l.len lc) 9 (.int .i64 (l.len:Int)) 10 (.int .i64 (x.1:Int)))) (λx=>X0 w f) (λx=>[]) (λx=>[⟨55,6,x.2.2.2.2.1,x.2.2.2.2.2,x.1,x.2.2.2.1⟩]) (λx=>[]) (λx=>[λw f=>A9 w f la x.1 x.2.1,λw f=>Cj w f x.2.2.1 x.2.2.2.1,λw f=>D5 w f]) (0,l,.nil,[],none,0) ⟨Nat.zero_add _,rfl,Sn,hD⟩ lE (λw f hM=>hM.more (B':=[]) (F':=[λw f=>A9 w f la 0 l,λw f=>Cj w f .nil []]) nE (A2.mem ⟨Bx.at hM.f0,rfl,tQ⟩) (Af.mem ⟨A9.mono,Cj.mono,tQ⟩) |>.less sR sR nE (mR [0,1,3])) ?_;rintro⟨i,r,dn,xs,ra,rc⟩ ⟨hi,hdl,hea,hrd⟩;dsimp only at hi hdl hea hrd ⊢;refine go Qx 6 [] (λ_=>Ba 11 rfl rfl (λh1=>?_) (λh1=>?_));refine go Qx 6 [] (λ_=>?_);have hil:i<l.len:=by have:=of_decide_eq_true h1;omega
 obtain⟨t,k,r,rfl⟩:=Fo.cases1 r oM;have hi2:i+(r.len+1)=l.len:=hi;refine C6 (α:=Nat×Nat×Option Addr×Nat) (λx=>la=some ⟨x.1,x.2.1,none⟩) (λx=>[⟨x.1,x.2.1+i*6,J6 t x.2.2.1 k.len x.2.2.2⟩]) (λx=>[λw f=>Bx w f k x.2.2.1 x.2.2.2,λw f=>A9 w f la (i+1) r]) (λw f hM=>let ⟨b,off,ka,kc,h1,h2,h3,h4⟩:=A9.head hM.f0;⟨(b,off,ka,kc),h1,(oE h2),A2.mem ⟨h3,h4,tQ⟩⟩) (λx=>Af.mem ⟨Bx.mono,A9.mono,tQ⟩) ?_;rintro⟨eb,eo,ka,kc⟩ rfl;refine go Qx 11 [100,0,0,0] (And.intro oM<|y2<|λb1=>y<|y<|λ_=>?_);refine Kx rfl rfl (eC he rfl rfl) (λw f hM=>hm w f hM.vl hM.f4 t k ka kc hrd.1 hM.f0) (λ_=>⟨AK.mono,tQ⟩) (λe w2 f2 he hE=>⟨rfl,e,f2,rfl,(by rw[hea];exact W6 he),hE⟩) ?_;rintro⟨nd,na,nc⟩ hnd;dsimp only at hnd ⊢;exact go Qx 1 [] (λb2=>λ_=>DR 0 0 rfl rfl MC rfl rfl rfl rfl rfl rfl rfl rfl (λ_ _=>rfl) oM oM λra2 rc2=>go Qx 8 [] (And.intro ⟨oM,oM⟩<|λ_=>DM ((i+1,r,dn.app nd.one,xs++FI nd.op nd.ln nd.co nd.tx nd.nm na nd.kids.len nc,ra2,rc2)) (show r.len<r.len+1 from Nat.lt_succ_self _) ⟨show i+1+r.len=_ by omega,show (dn.app nd.one).len=i+1 by rw[Nd.app_len,hdl];rfl,hea.trans (Uf hnd),hrd.2⟩ lE (λw f hM=>⟨_,(hM.more (B':=[]) (F':=[λw f=>Cj w f (dn.app nd.one) (xs++FI nd.op nd.ln nd.co nd.tx nd.nm na nd.kids.len nc)]) nE (A2.mem ⟨Cj.app (Cj.one hM.f0) hM.f4,tQ⟩) (Af.mem ⟨Cj.mono,tQ⟩)).less (sD (sD sZ)) sR nE (mR [3,0,6])⟩)));refine go Qx 3 [] (λ_=>GR<|go Qx 3 [] (λ_=>?_));obtain rfl:r=.nil:=Fo.len0 (by have:=of_decide_eq_false h1;omega);subst hdl;exact go Qx 6 [] (λ_=>Bc (DI rfl rfl) (λw f hM=>⟨(dn,xs),ra,rc,f,rfl,(by rw[hea];show (Except.ok (dn.app .nil):R Nd)=_;rw[Nd.app_nil]),hM.exm,hM.row _ (.head _),(λb hb=>⟨hM.rnw _ (.head _) b hb,(hM.own b (List.mem_append.2 (.inr (List.mem_filterMap.2 ⟨_,.head _,hb⟩)))).1⟩),⟨hM.f1,tQ⟩⟩))
def xF:Eh:=⟨[(82,0,0),(80,3,4)],[(44,82,6)],[],[],[(82,true,6),(55,true,6),(9,false,1)],[(82,[.int .i64 0,.int .i64 0,.int .i64 0,.int .i64 0,.string ⟨#[]⟩,.slice none 0 0]),(55,[.int .i64 0,.int .i64 0,.int .i64 0,.string ⟨#[]⟩,.int .i64 0,.slice none 0 0])],[],[]⟩
theorem JC:xF.Ok prog:=⟨(And.intro Jb (And.intro IU tQ)),(And.intro Gq tQ),tQ,tQ,(And.intro Lr (And.intro Bh (And.intro GX tQ))),(And.intro P5 (And.intro GJ tQ)),tQ,tQ⟩
variable {af:Array Edge}{Q:Bm}{σ:Br}{X:Cx}{Fs:List (World→Fq→Prop)}{ds:List Deferred}{B:List FB}{fs:List Fr}{H:List HB}{r:List Oper}{d n:Nat}{g:Option (Nat×Bool)}{pos:String}{ty:TypeId}
theorem Be{R:List RB}{all:List Oper}{op:Op}{t:AM}{kv:Value}{b:Bool}
  (hg:gd all σ g=some true) (hd:Nat.blt d n=true) (he:∀w,SW.Enters prog σ op ty w 29 #[.agg #[.int .i64 t.k,.int .i64 t.ln,.int .i64 t.co,.int .i64 t.nm,S t.tx,kv],.bool b]) (hp:∀w' f',b=false→CR X.M X.w0 X.f0 w' f'→Q.p (Rc 42 (t.ln,t.co)) σ ds w')
  (h:b=true→AF prog n Q ds X R B Fs (.ops all r) fs (AL σ d (.tuple #[])) H):AF prog n Q ds X R B Fs (.ops all (⟨some d,op,ty,pos,af,g⟩::r)) fs σ H :=
 Kx (α:=Unit) (val:=λ_=>.tuple #[]) (q:=λ_=>b=true) (F':=λ_=>[]) (pe:=λe=>b=false∧e=(t.ln,t.co)) (T:=42) hg hd he (λw f hM=>(UU w t _ _).mono (λ_ w2 ⟨h1,h2,h3⟩=>⟨(),f,h2,h1,CR.of_ext h3 hM.vl,tQ⟩) λ_ w2 ⟨h1,h2,h3⟩=>⟨_,f,h2,⟨h1,rfl⟩,CR.of_ext h3 hM.vl⟩) (λ_=>trivial) (λe w2 f2 ⟨he,he2⟩ hE=>by subst he2;exact hp w2 f2 he hE) (λ_ h1=>h h1)
theorem Ca(fid:Nat)(he:BV prog fid)(m:AM→Fo→R N)(D:AM→Fo→Prop)(hm:∀ (w:World) (f:Fq) (_:Vl w f) (_:D5 w f) (t:AM) (k:Fo) (a:Option Addr) (c:Nat),D t k→Bx w f k a c→BS prog fid #[fV t a k.len c] w (ID (m t k) w f) (IK 42 (m t k) w f))(w:World)(f:Fq)(hv:Vl w f)(hJ:D5 w f)(l:Fo)(la:Option Addr)(lc:Nat)(hD:l.all D)(hlen:l.len≤100000)(hL:Bx w f l la lc) :
  BS prog 10 #[.slice la l.len lc,.func (.func fid) #[] #[]] w (BW (α:=(Nd×List Value)×Option Addr×Nat) (λy=>.slice y.2.1 y.1.1.len y.2.2) (λy=>AN m l=.ok y.1.1) (λy=>[λw f=>AK w f y.1.1 y.2.1 y.2.2]) w f) (Sx 42 (λe=>AN m l=.error e) w f) :=
 (HF fid he m D hm w f hv hJ l la lc hD hlen hL).mono (λ_ _ h=>Z8.fro hv h) λ_ _ h=>h
theorem S5(w:World)(f:Fq)(hv:Vl w f)(hJ:D5 w f)(l:Fo)(la:Option Addr)(lc:Nat)(hD:l.all (λt _=>t.ok))(hlen:l.len≤100000)(hL:Bx w f l la lc) :
  BC prog 91 #[.slice la l.len lc] w (BW (α:=Unit) (λ_=>.bool (KC l)) (λ_=>True) (λ_=>[]) w f):=by
 refine Dl (X:=X0 w f) (H:=[]) (R:=[]) (B:=[]) (Fs:=[λw f=>Bx w f l la lc,λw f=>D5 w f]) (f:=f) func91 rfl rfl rfl (C8 hv ⟨hL,hJ,tQ⟩ ⟨Bx.mono,D5.mono,tQ⟩)<|go JC 14 [] (λ_=>?_);refine HK (α:=Nat×Fo) (λx=>x.2.len) (λx=>x.1+x.2.len=l.len∧KC l=KC x.2∧x.2.all (λt _=>t.ok)) (λx=>(E3 5 (.slice la l.len lc) 6 (.int .i64 (l.len:Int)) 7 (.int .i64 (x.1:Int)))) (λx=>X0 w f) (λx=>[]) (λx=>[]) (λx=>[]) (λx=>[λw f=>A9 w f la x.1 x.2,λw f=>D5 w f]) (0,l) ⟨Nat.zero_add _,rfl,hD⟩ lE (λw f hM=>hM.more (B':=[]) (F':=[λw f=>A9 w f la 0 l]) nE (A2.mem ⟨Bx.at hM.f0,tQ⟩) (Af.mem ⟨A9.mono,tQ⟩) |>.less sR sR nE (mR [0,2])) ?_;rintro⟨i,r⟩ ⟨hi,hea,hrd⟩;dsimp only at hi hea hrd ⊢;refine go JC 6 [] (λ_=>Ba 8 rfl rfl (λh1=>?_) (λh1=>?_));refine go JC 6 [] (λ_=>?_);have hil:i<l.len:=by have:=of_decide_eq_true h1;omega
 obtain⟨t,k,r,rfl⟩:=Fo.cases1 r oM;have hi2:i+(r.len+1)=l.len:=hi;refine C6 (α:=Nat×Nat×Option Addr×Nat) (λx=>la=some ⟨x.1,x.2.1,none⟩) (λx=>[⟨x.1,x.2.1+i*6,J6 t x.2.2.1 k.len x.2.2.2⟩]) (λx=>[λw f=>Bx w f k x.2.2.1 x.2.2.2,λw f=>A9 w f la (i+1) r]) (λw f hM=>let ⟨b,off,ka,kc,h1,h2,h3,h4⟩:=A9.head hM.f0;⟨(b,off,ka,kc),h1,(oE h2),A2.mem ⟨h3,h4,tQ⟩⟩) (λx=>Af.mem ⟨Bx.mono,A9.mono,tQ⟩) ?_;rintro⟨eb,eo,ka,kc⟩ rfl;refine go JC 10 [100,0,0,0] (And.intro oM<|y2<|λb1=>y<|y<|λ_=>D4 rfl rfl (eC Ug rfl rfl) (λw f hM=>JI _ (D5.gl hM.f3) t _ hrd.1.1 hrd.1.2)<|go JC 3 [] (λ_=>Ba 13 rfl rfl (λh2=>?_) (λh2=>?_)));replace h2:=Gg h2;exact go JC 9 [] (λ_=>fD<|go JC 2 [] (λ_=>Bc (DI rfl rfl) (λw f hM=>⟨(),f,(by rw[hea];show _=Value.bool (t.isHole&&KC r);rw[h2];rfl),tQ,hM.exm,tQ⟩)));replace h2:=Gs h2;exact go JC 8 [] (And.intro ⟨oM,oM⟩<|λ_=>DM ((i+1,r)) (show r.len<r.len+1 from Nat.lt_succ_self _) ⟨show i+1+r.len=_ by omega,hea.trans (by show (t.isHole&&KC r)=_;rw[h2];rfl),hrd.2⟩ lE (λw f hM=>⟨_,hM.less (sD sZ) sR nE (mR [1,3])⟩));refine go JC 3 [] (λ_=>GR<|go JC 3 [] (λ_=>?_));obtain rfl:r=.nil:=Fo.len0 (by have:=of_decide_eq_false h1;omega);exact go JC 5 [] (λ_=>Bc (DI rfl rfl) (λw f hM=>⟨(),f,(by rw[hea];rfl),tQ,hM.exm,tQ⟩))
theorem NA(w:World)(f:Fq)(hv:Vl w f)(hJ:D5 w f)(t:AM)(k:Fo)(ka:Option Addr)(kc:Nat) :
  BC prog 92 #[fV t ka k.len kc] w (ID (HR t k) w f):=by
 refine Dl (X:=X0 w f) (H:=[]) (R:=[]) (B:=[]) (Fs:=[λw f=>D5 w f]) (f:=f) func92 rfl rfl rfl (C8 hv ⟨hJ,tQ⟩ ⟨D5.mono,tQ⟩)<|go JC 10 [1] (λb1=>λb2=>y<|λ_=>D4 rfl rfl (eC KT rfl rfl) (λw f hM=>DL _ t _ _)<|go JC 2 [] (λ_=>Ba 4 rfl rfl (λh1=>?_) (λh1=>?_)));exact go JC 4 [1] (y<|λ_=>D4 rfl rfl (eC Bq rfl rfl) (λw f hM=>AE _ t _ _ _ _ _ _)<|go JC 5 [0] (y<|λ_=>Bc (λw f hM=>AJ rfl (Ac rfl Bh hM.k0 rfl)) (λw f hM=>⟨(⟨21,t.ln,t.co,[],0,.nil⟩,none,0),f,rfl,(by simp[HR,Az,h1]),hM.exm,⟨⟨Nat.zero_le _,.inl rfl⟩,tQ⟩⟩)));exact go JC 9 [1,1] (y<|y<|λ_=>D4 rfl rfl (eC Bq rfl rfl) (λw f hM=>AE _ t _ _ _ _ _ _)<|go JC 4 [0] (y<|λ_=>Bc (λw f hM=>AJ rfl (Ac rfl Bh hM.k0 rfl)) (λw f hM=>⟨(⟨22,t.ln,t.co,t.tx,0,.nil⟩,none,0),f,rfl,(by simp[HR,Az,h1]),hM.exm,⟨⟨Nat.zero_le _,.inl rfl⟩,tQ⟩⟩)))
def wP:Eh:=⟨[(82,0,0),(80,0,0),(80,1,1),(80,2,3),(80,3,4),(82,1,5)],[(44,82,6)],[],[],[(3,false,1),(26,true,2),(55,true,6),(82,true,6),(9,false,1),(44,false,1)],[(55,[.int .i64 0,.int .i64 0,.int .i64 0,.string ⟨#[]⟩,.int .i64 0,.slice none 0 0]),(82,[.int .i64 0,.int .i64 0,.int .i64 0,.int .i64 0,.string ⟨#[]⟩,.slice none 0 0])],[(55,[(0,1),(1,2),(3,1),(4,1),(5,1)])],[]⟩
theorem C1:wP.Ok prog:=⟨(And.intro Jb (And.intro Qe (And.intro VG (And.intro Wd (And.intro IU (And.intro IJ tQ)))))),(And.intro Gq tQ),tQ,tQ,(And.intro Dd (And.intro Db (And.intro Bh (And.intro Lr (And.intro GX (And.intro NJ tQ)))))),(And.intro GJ (And.intro P5 tQ)),(And.intro gR tQ),tQ⟩
theorem SE(n:Nat)(ih:∀n',n=n'+1→∀ (w:World) (f:Fq) (_:Vl w f) (_:D5 w f) (t:AM) (k:Fo) (a:Option Addr) (c:Nat),Hb n' t k→Bx w f k a c→BS prog 117 #[fV t a k.len c] w (ID (Eb (n'+1) t k) w f) (IK 42 (Eb (n'+1) t k) w f))(w:World)(f:Fq)(hv:Vl w f)(hJ:D5 w f)(t:AM)(k:Fo)(ka:Option Addr)(kc:Nat)(hp:Hb n t k)(hL:Bx w f k ka kc) :
  BS prog 117 #[fV t ka k.len kc] w (ID (Eb (n+1) t k) w f) (IK 42 (Eb (n+1) t k) w f):=by
 refine Nl (X:=X0 w f) (H:=[]) (R:=[]) (B:=[]) (Fs:=[λw f=>Bx w f k ka kc,λw f=>D5 w f]) (f:=f) func117 rfl rfl rfl (C8 hv ⟨hL,hJ,tQ⟩ ⟨Bx.mono,D5.mono,tQ⟩)<|go C1 21 [1] (λb1=>λb2=>y<|λ_=>Ba 8 rfl rfl (λh1=>?_) (λh1=>?_));exact go C1 16 [1,1,0] (y<|y<|y<|λ_=>Bc (λw f hM=>AJ rfl (Ac rfl Bh hM.k0 rfl)) (λw f hM=>⟨(⟨23,t.ln,t.co,[],t.nm,.nil⟩,none,0),f,rfl,(by unfold Eb;simp[SP.need,Az,h1]),hM.exm,⟨⟨Nat.zero_le _,.inl rfl⟩,tQ⟩⟩));refine go C1 7 [] (λ_=>Ba 17 rfl rfl (λh2=>?_) (λh2=>?_));exact go C1 7 [1,1] (y<|y<|λ_=>D4 rfl rfl (eC Bq rfl rfl) (λw f hM=>AE _ t _ _ _ _ _ _)<|go C1 6 [0] (y<|λ_=>Bc (λw f hM=>AJ rfl (Ac rfl Bh hM.k0 rfl)) (λw f hM=>⟨(⟨24,t.ln,t.co,t.tx,0,.nil⟩,none,0),f,rfl,(by unfold Eb;simp[SP.need,Az,h1,h2]),hM.exm,⟨⟨Nat.zero_le _,.inl rfl⟩,tQ⟩⟩)));refine go C1 7 [] (λ_=>Ba 24 rfl rfl (λh3=>?_) (λh3=>?_));exact go C1 7 [1,1] (y<|y<|λ_=>D4 rfl rfl (eC Bq rfl rfl) (λw f hM=>AE _ t _ _ _ _ _ _)<|go C1 6 [0] (y<|λ_=>Bc (λw f hM=>AJ rfl (Ac rfl Bh hM.k0 rfl)) (λw f hM=>⟨(⟨26,t.ln,t.co,t.tx,0,.nil⟩,none,0),f,rfl,(by unfold Eb;simp[SP.need,Az,h1,h2,h3]),hM.exm,⟨⟨Nat.zero_le _,.inl rfl⟩,tQ⟩⟩)));refine go C1 7 [] (λ_=>Ba 31 rfl rfl (λh4=>?_) (λh4=>?_));refine go C1 2 [] (λ_=>Dp [0,1] Ap (.rd 0 (.rd 1 (.br 2 (.br 3 .fin .fin) .fin))) rfl kR<|AA C1 2 [1,1] (y<|y<|λ_=>Ag rfl ?_ Aj));refine D4 rfl rfl (eC Ug rfl rfl) (λw f hM=>JI _ (D5.gl hM.f1) t _ hp.1.1 hp.1.2)<|go C1 1 [] (λ_=>Ax [0,1] rfl<|Ag rfl ?_ Aj);refine Be rfl rfl (eC AO rfl rfl) (λw2 f2 he hE=>⟨rfl,_,f2,rfl,(by unfold Eb;simp[SP.need,Az,he,h1,h2,h3,h4]),hE⟩) λhn1=>go C1 1 [] (λ_=>Ax [0,1] rfl<|B4<|go C1 4 [1] (y<|λ_=>BA rfl rfl (eC Ze rfl rfl) (λw f hM=>NA w f hM.vl hM.f1 t _ _ _) (λ_=>⟨AK.mono,tQ⟩) ?_));rintro⟨nd1,and1,cnd1⟩ hnd1;dsimp only at hnd1 ⊢;exact go C1 6 [0] (y<|λ_=>Bc (λw f hM=>AJ rfl (Ac rfl Bh hM.k0 rfl)) (λw f hM=>⟨(nd1,and1,cnd1),f,rfl,(by unfold Eb;simp[SP.need,Az,h1,h2,h3,h4,hn1,hnd1]),hM.exm,⟨hM.f0,tQ⟩⟩));refine go C1 7 [] (λ_=>Ba 39 rfl rfl (λh5=>?_) (λh5=>?_));exact go C1 3 [1] (y<|λ_=>jN rfl rfl (eC TV rfl rfl) (pe:=λe=>e=(t.ln,t.co)) (T:=42) (λw f hM=>(Jh w t _).mono (λ_ _ h=>h.elim) λ_ w2 ⟨h1,h2⟩=>⟨_,f,h1,rfl,CR.of_ext h2 hM.vl⟩) (λe w2 f2 he hE=>by subst he;exact⟨rfl,_,f2,rfl,(by unfold Eb;simp[SP.need,Az,h1,h2,h3,h4,h5]),hE⟩));refine go C1 13 [1] (y<|λ_=>Ba 46 rfl rfl (λh6=>?_) (λh6=>?_));refine go C1 2 [] (λ_=>?_);obtain rfl:k=.nil:=Fo.len0 (by have h9:((k.len:Int)==0)=true:=h6;have:=beq_iff_eq.1 h9;omega);exact go C1 2 [1] (y<|λ_=>D4 rfl rfl (eC Bq rfl rfl) (λw f hM=>AE _ t _ _ _ _ _ _)<|go C1 5 [0] (y<|λ_=>Bc (λw f hM=>AJ rfl (Ac rfl Bh hM.k0 rfl)) (λw f hM=>⟨(⟨25,t.ln,t.co,[],0,.nil⟩,none,0),f,rfl,(by unfold Eb;simp[SP.need,Az,h1,h2,h3,h4,h5,h6]),hM.exm,⟨⟨Nat.zero_le _,.inl rfl⟩,tQ⟩⟩)));refine go C1 4 [] (λ_=>?_)
 obtain⟨h,hk,r,rfl⟩:=Fo.cases1 k (by have h9:((k.len:Int)==0)=false:=h6;have:=beq_eq_false_iff_ne.1 h9;omega);obtain⟨hto,hko,hkl,hdp⟩:=hp;have hkl2:r.len+1≤100000:=hkl;obtain⟨n,rfl⟩:∃q,n=q+1:=by cases n with|zero=>exact absurd hdp (by simp[Fo.deep])|succ q=>exact⟨q,rfl⟩
 simp only[Fo.deep,Bool.and_eq_true] at hdp;refine B5 (λw f=>Bx w f r (DA ka kc 6) (kc-1)) (λw f hM=>A9.rest hM.f0) Bx.mono<|B5 (λw f=>A9 w f ka 0 (.cons h hk r)) (λw f hM=>Bx.at hM.f1) A9.mono<|C6 (α:=Nat×Nat×Option Addr×Nat) (λx=>ka=some ⟨x.1,x.2.1,none⟩) (λx=>[⟨x.1,x.2.1+0*6,J6 h x.2.2.1 hk.len x.2.2.2⟩]) (λx=>[λw f=>Bx w f hk x.2.2.1 x.2.2.2,λw f=>A9 w f ka 1 r]) (λw f hM=>let ⟨b,off,ka,kc,h1,h2,h3,h4⟩:=A9.head hM.f0;⟨(b,off,ka,kc),h1,(oE h2),A2.mem ⟨h3,h4,tQ⟩⟩) (λx=>Af.mem ⟨Bx.mono,A9.mono,tQ⟩) ?_;rintro⟨eb,eo,hka,hkc⟩ rfl;refine Dp [0,1] Ap (rd [0,1,2,3,4,5,6] (.br 7 (.br 8 (.rd 9 .fin) .fin) .fin)) rfl kR<|AA C1 6 [1,100,0,1] (y<|And.intro (by simp only[Fo.len];omega)<|y2<|y<|λ_=>Ik rfl rfl rfl (λw hK=>Hz rfl rfl rfl Gq)<|Ag rfl ?_ Aj);refine go C1 2 [] (λb3=>λ_=>Ax [1,2] rfl<|Ag rfl ?_ Aj);refine go C1 2 [0] (y<|λ_=>Ax [1,2] rfl<|AA C1 1 [] (λ_=>B4<|go C1 10 [0] (y<|λ_=>Ba 59 rfl rfl (λh7=>?_) (λh7=>?_))));refine go C1 2 [] (λ_=>Dp [0,1,2] Ap (rd [0,1,2] (.br 3 (.br 4 .fin .fin) .fin)) rfl kR<|AA C1 3 [2] (y<|λ_=>Ag rfl ?_ Aj));refine D4 rfl rfl (eC Jm rfl rfl) (λw f hM=>Dw _ _ _ _)<|go C1 1 [] (λ_=>Ax [0,1,2] rfl<|Ag rfl ?_ Aj);refine Be rfl rfl (eC AO rfl rfl) (λw2 f2 he hE=>⟨rfl,_,f2,rfl,(by unfold Eb;simp[SP.need,Az,he,h1,h2,h3,h4,h5,h6,h7]),hE⟩) λhn2=>go C1 1 [] (λ_=>Ax [0,1,2] rfl<|B4<|go C1 2 [] (λ_=>Dp [0,2] Ap (rd [0,1,2,3,4] (.br 5 (.br 6 (.br 7 .fin .fin) .fin) .fin)) rfl kR<|AA C1 5 [1,0] (y<|y<|λ_=>Ag rfl ?_ Aj)));refine Kx rfl rfl (eC D2 rfl rfl) (λw f hM=>Ca 117 PO (Eb (n+1)) (Hb n) (λw f hv hJ t k a c hd hT=>ih n rfl w f hv hJ t k a c hd hT) w f hM.vl hM.f5 r _ _ (N7 n r hko.2.2.2 hdp.2) oM hM.f3) (λ_=>⟨AK.mono,tQ⟩) (λe w2 f2 he hE=>⟨rfl,e,f2,rfl,(by unfold Eb;simp[SP.need,Az,he,h1,h2,h3,h4,h5,h6,h7,hn2]),hE⟩) ?_;rintro⟨⟨nds1,xnds1⟩,ands1,cnds1⟩ hnds1;dsimp only at hnds1 ⊢;refine go C1 1 [] (λ_=>Ax [0,2] rfl<|Ag rfl ?_ Aj);refine D4 rfl rfl (eC Bq rfl rfl) (λw f hM=>AE _ t _ _ _ _ _ _)<|go C1 1 [] (λ_=>Ax [0,2] rfl<|Ag rfl ?_ Aj);exact go C1 2 [1] (y<|λ_=>Ax [0,2] rfl<|B4<|go C1 3 [] (λ_=>Bc (λw f hM=>AJ rfl (Ac rfl Bh hM.k1 rfl)) (λw f hM=>⟨(⟨26,t.ln,t.co,h.tx,0,nds1⟩,ands1,cnds1),f,rfl,(by unfold Eb;simp[SP.need,Az,h1,h2,h3,h4,h5,h6,h7,hn2,hnds1]),hM.exm,⟨hM.f0,tQ⟩⟩)));refine go C1 4 [] (λ_=>Dp [0,1,2] Ap (.rd 0 (.rd 1 (.br 2 (rd [3,4,5] (.br 6 (.rd 7 (.br 8 .fin .fin)) .fin)) .fin))) rfl kR<|AA C1 2 [2,0] (y<|y<|λ_=>Ag rfl ?_ Aj));refine D4 rfl rfl (eC KT rfl rfl) (λw f hM=>DL _ h _ _)<|go C1 1 [] (λ_=>Ax [0,1,2] rfl<|AA C1 1 [] (λ_=>K3 75 rfl (λh8=>?_) (λh8=>?_)));refine AA C1 2 [] (λ_=>Ag rfl ?_ Aj);refine D4 rfl rfl (eC Jm rfl rfl) (λw f hM=>Dw _ _ _ _)<|go C1 1 [] (λ_=>Ax [0,1,2] rfl<|AA C1 1 [] (λ_=>Ag rfl ?_ Aj))
 refine Be rfl rfl (eC AO rfl rfl) (λw2 f2 he hE=>⟨rfl,_,f2,rfl,(by unfold Eb;simp[SP.need,Az,he,h1,h2,h3,h4,h5,h6,h7,h8]),hE⟩) λhn3=>go C1 1 [] (λ_=>Ax [0,1,2] rfl<|B4<|go C1 2 [] (λ_=>Dp [0,2] Ap (.rd 0 (.rd 1 (.br 2 (.br 3 (.br 4 .fin .fin) .fin) .fin))) rfl kR<|AA C1 2 [1] (y<|λ_=>Ag rfl ?_ Aj)));refine Kx rfl rfl (eC D2 rfl rfl) (λw f hM=>Ca 117 PO (Eb (n+1)) (Hb n) (λw f hv hJ t k a c hd hT=>ih n rfl w f hv hJ t k a c hd hT) w f hM.vl hM.f5 r _ _ (N7 n r hko.2.2.2 hdp.2) oM hM.f3) (λ_=>⟨AK.mono,tQ⟩) (λe w2 f2 he hE=>⟨rfl,e,f2,rfl,(by unfold Eb;simp[SP.need,Az,he,h1,h2,h3,h4,h5,h6,h7,h8,hn3]),hE⟩) ?_;rintro⟨⟨nds2,xnds2⟩,ands2,cnds2⟩ hnds2;dsimp only at hnds2 ⊢;refine go C1 1 [] (λ_=>Ax [0,2] rfl<|Ag rfl ?_ Aj);refine D4 rfl rfl (eC Bq rfl rfl) (λw f hM=>AE _ t _ _ _ _ _ _)<|go C1 1 [] (λ_=>Ax [0,2] rfl<|Ag rfl ?_ Aj);exact go C1 2 [1] (y<|λ_=>Ax [0,2] rfl<|B4<|go C1 2 [] (λ_=>Bc (λw f hM=>AJ rfl (Ac rfl Bh hM.k1 rfl)) (λw f hM=>⟨(⟨27,t.ln,t.co,[],0,nds2⟩,ands2,cnds2),f,rfl,(by unfold Eb;simp[SP.need,Az,h1,h2,h3,h4,h5,h6,h7,h8,hn3,hnds2]),hM.exm,⟨hM.f0,tQ⟩⟩)));refine AA C1 2 [] (λ_=>Ag rfl ?_ Aj);refine go C1 2 [] (λ_=>Ax [0,1,2] rfl<|AA C1 1 [] (λ_=>Ag rfl ?_ Aj));refine Be rfl rfl (eC AO rfl rfl) (λw2 f2 he hE=>⟨rfl,_,f2,rfl,(by unfold Eb;simp[SP.need,Az,he,h1,h2,h3,h4,h5,h6,h7,h8]),hE⟩) λhn4=>?_
 cases hn4
theorem Pw:∀n,∀(w:World)(f:Fq)(_:Vl w f)(_:D5 w f)(t:AM)(k:Fo)(a:Option Addr)(c:Nat),Hb n t k→Bx w f k a c→BS prog 117 #[fV t a k.len c] w (ID (Eb (n+1) t k) w f) (IK 42 (Eb (n+1) t k) w f)
 |0=>SE 0 (λ_ hq=>by cases hq)
 |n+1=>SE (n+1) (λn' h=>by cases h;exact Pw n)
def wI:Eh:=⟨[(82,1,5),(82,0,0),(80,3,4)],[(44,82,6),(34,55,6)],[],[],[(82,true,6),(44,false,1),(55,true,6),(9,false,1)],[(55,[.int .i64 0,.int .i64 0,.int .i64 0,.string ⟨#[]⟩,.int .i64 0,.slice none 0 0])],[],[]⟩
theorem A5:wI.Ok prog:=⟨(And.intro IJ (And.intro Jb (And.intro IU tQ))),(And.intro Gq (And.intro FF tQ)),tQ,tQ,(And.intro Lr (And.intro NJ (And.intro Bh (And.intro GX tQ)))),(And.intro GJ tQ),tQ,tQ⟩
theorem Oq(w:World)(f:Fq)(hv:Vl w f)(t:AM)(k:Fo)(ka:Option Addr)(kc:Nat)(hL:Bx w f k ka kc) :
  BC prog 39 #[fV t ka k.len kc] w (BW (α:=Unit) (λ_=>.bool (QQ t k)) (λ_=>True) (λ_=>[]) w f):=by
 refine Dl (X:=X0 w f) (H:=[]) (R:=[]) (B:=[]) (Fs:=[λw f=>Bx w f k ka kc]) (f:=f) func39 rfl rfl rfl (C8 hv ⟨hL,tQ⟩ ⟨Bx.mono,tQ⟩)<|go A5 7 [] (λb1=>λ_=>?_)
 cases k with
 |nil =>
  refine go A5 2 [0] (y<|λ_=>D4 rfl rfl (eC H8 rfl rfl) (λw f hM=>C3 _ t _)<|go A5 1 [] (λ_=>Ba 5 rfl rfl (λh1=>?_) (λh1=>?_)));refine go A5 6 [0] (y<|λ_=>Ba 11 rfl rfl (λh2=>?_) (λh2=>?_));simp[Fo.len] at h2;exact go A5 10 [] (λ_=>Bc (DI rfl rfl) (λw f hM=>⟨(),f,(by simp[QQ,h1]),tQ,hM.exm,tQ⟩));exact go A5 16 [] (λ_=>Bc (DI rfl rfl) (λw f hM=>⟨(),f,(by simp[QQ,h1]),tQ,hM.exm,tQ⟩))
 |cons h hk r =>
  refine B5 (λw f=>A9 w f ka 0 (.cons h hk r)) (λw f hM=>Bx.at hM.f0) A9.mono<|C6 (α:=Nat×Nat×Option Addr×Nat) (λx=>ka=some ⟨x.1,x.2.1,none⟩) (λx=>[⟨x.1,x.2.1+0*6,J6 h x.2.2.1 hk.len x.2.2.2⟩]) (λx=>[λw f=>Bx w f hk x.2.2.1 x.2.2.2,λw f=>A9 w f ka 1 r]) (λw f hM=>let ⟨b,off,ka,kc,h1,h2,h3,h4⟩:=A9.head hM.f0;⟨(b,off,ka,kc),h1,(oE h2),A2.mem ⟨h3,h4,tQ⟩⟩) (λx=>Af.mem ⟨Bx.mono,A9.mono,tQ⟩) ?_;rintro⟨eb,eo,hka,hkc⟩ rfl;refine go A5 2 [0] (y<|λ_=>D4 rfl rfl (eC H8 rfl rfl) (λw f hM=>C3 _ t _)<|go A5 1 [] (λ_=>Ba 5 rfl rfl (λh3=>?_) (λh3=>?_)));refine go A5 6 [0] (y<|λ_=>Ba 11 rfl rfl (λh4=>?_) (λh4=>?_));exact go A5 4 [0,100,0] (y<|And.intro (by simp only[Fo.len];omega)<|y2<|λ_=>D4 rfl rfl (eC KT rfl rfl) (λw f hM=>DL _ h _ _)<|go A5 5 [] (λ_=>Bc (DI rfl rfl) (λw f hM=>⟨(),f,(by simp[QQ,h3]),tQ,hM.exm,tQ⟩)));have h9:=of_decide_eq_false h4;simp only[Fo.len] at h9;omega;exact go A5 16 [] (λ_=>Bc (DI rfl rfl) (λw f hM=>⟨(),f,(by simp[QQ,h3]),tQ,hM.exm,tQ⟩))
set_option maxHeartbeats 1000000 in
theorem Wx(n:Nat)(ihx:∀ (w:World) (f:Fq) (_:Vl w f) (_:D5 w f) (t:AM) (k:Fo) (a:Option Addr) (c:Nat),Hb n t k→Bx w f k a c→BS prog 38 #[fV t a k.len c] w (ID (By (n+1) t k) w f) (IK 42 (By (n+1) t k) w f))(iha:∀ (w:World) (f:Fq) (_:Vl w f) (_:D5 w f) (t:AM) (k:Fo) (a:Option Addr) (c:Nat),Hb n t k→Bx w f k a c→BS prog 94 #[fV t a k.len c] w (ID (Gv (n+1) (By (n+1)) t k) w f) (IK 42 (Gv (n+1) (By (n+1)) t k) w f))(w:World)(f:Fq)(hv:Vl w f)(hJ:D5 w f)(t:AM)(k:Fo)(ka:Option Addr)(kc:Nat)(wd:lU)(l:Fo)(la:Option Addr)(lc:Nat)(hall:l.all (Hb n))(hlen:l.len≤100000)(hL:Bx w f l la lc) :
  BS prog 65 #[fV t ka k.len kc,S wd,.slice la l.len lc] w (ID (Bn (n+1) (By (n+1)) t wd l) w f) (IK 42 (Bn (n+1) (By (n+1)) t wd l) w f):=by
 refine Nl (X:=X0 w f) (H:=[]) (R:=[]) (B:=[]) (Fs:=[λw f=>Bx w f l la lc,λw f=>D5 w f]) (f:=f) func65 rfl rfl rfl (C8 hv ⟨hL,hJ,tQ⟩ ⟨Bx.mono,D5.mono,tQ⟩)<|go A5 26 [] (λb1=>λb2=>λ_=>Ba 13 rfl rfl (λh1=>?_) (λh1=>?_));obtain rfl:=beq_iff_eq.1 h1;refine go A5 2 [] (λ_=>?_);rcases Fo.two l with ⟨p,pk,b,bk,rfl⟩|hne
 refine B5 (λw f=>A9 w f la 0 (.cons p pk (.cons b bk .nil))) (λw f hM=>Bx.at hM.f0) A9.mono<|C6 (α:=Nat×Nat×Option Addr×Nat) (λx=>la=some ⟨x.1,x.2.1,none⟩) (λx=>[⟨x.1,x.2.1+0*6,J6 p x.2.2.1 pk.len x.2.2.2⟩]) (λx=>[λw f=>Bx w f pk x.2.2.1 x.2.2.2,λw f=>A9 w f la 1 (.cons b bk .nil)]) (λw f hM=>let ⟨b,off,ka,kc,h1,h2,h3,h4⟩:=A9.head hM.f0;⟨(b,off,ka,kc),h1,(oE h2),A2.mem ⟨h3,h4,tQ⟩⟩) (λx=>Af.mem ⟨Bx.mono,A9.mono,tQ⟩) ?_;rintro⟨eb0,eo0,k0a,k0c⟩ rfl;refine C6 (α:=Nat×Nat×Option Addr×Nat) (λx=>(some (⟨eb0,eo0,none⟩:Addr))=some ⟨x.1,x.2.1,none⟩) (λx=>[⟨x.1,x.2.1+1*6,J6 b x.2.2.1 bk.len x.2.2.2⟩]) (λx=>[λw f=>Bx w f bk x.2.2.1 x.2.2.2,λw f=>A9 w f (some (⟨eb0,eo0,none⟩:Addr)) 2 .nil]) (λw f hM=>let ⟨b,off,ka,kc,h1,h2,h3,h4⟩:=A9.head hM.f1;⟨(b,off,ka,kc),h1,(oE h2),A2.mem ⟨h3,h4,tQ⟩⟩) (λx=>Af.mem ⟨Bx.mono,A9.mono,tQ⟩) ?_;rintro⟨eb1,eo1,k1a,k1c⟩ h44;obtain⟨rfl,rfl⟩:eb0=eb1∧eo0=eo1:=by cases h44;exact⟨rfl,rfl⟩
 refine Dp [0,1] Ap (rd [0,1,2,3,4,5,6] (.br 7 (rd [8,9,10,11,12,13,14] (.br 15 (rd [16,17,18,19,20,21] (.br 22 (.rd 23 (.br 24 .fin .fin)) .fin)) .fin)) .fin)) rfl kR<|AA A5 4 [1] (y<|λ_=>K3 18 rfl (λh2=>?_) (λh2=>?_));refine AA A5 3 [101,0] (And.intro (by simp only[Fo.len];omega)<|y2<|λ_=>Ag rfl ?_ Aj);refine D4 rfl rfl (eC H8 rfl rfl) (λw f hM=>C3 _ p _)<|go A5 1 [] (λ_=>Ax [0,1] rfl<|AA A5 2 [] (λ_=>K3 24 rfl (λh3=>?_) (λh3=>?_)));refine AA A5 5 [101,5] (And.intro (by simp only[Fo.len];omega)<|y2<|λ_=>Ag rfl ?_ Aj);refine D4 rfl rfl (eC Jm rfl rfl) (λw f hM=>Dw _ _ _ _)<|go A5 1 [] (λ_=>Ax [0,1] rfl<|AA A5 2 [] (λ_=>K3 32 rfl (λh4=>?_) (λh4=>?_)));refine AA A5 4 [101,5] (And.intro (by simp only[Fo.len];omega)<|y2<|λ_=>Ag rfl ?_ Aj);refine BA rfl rfl (eC nI rfl rfl) (λw f hM=>S5 w f hM.vl hM.f6 pk _ _ (Fo.ok.all hall.1.2.1) hall.1.2.2.1 hM.f2) (λ_=>trivial) ?_;rintro⟨⟩ -;refine go A5 1 [] (λ_=>Ax [0,1] rfl<|AA A5 1 [] (λ_=>Ag rfl ?_ Aj));refine Be rfl rfl (eC AO rfl rfl) (λw2 f2 he hE=>⟨rfl,_,f2,rfl,(by simp[Bn,SP.need,Az,he,h2,h3,h4]),hE⟩) λhn1=>go A5 1 [] (λ_=>Ax [0,1] rfl<|B4<|go A5 2 [] (λ_=>Dp [1] Ap (rd [0,1,2,3,4,6,7,8] (.br 5 (.br 9 (.br 10 (.br 11 (.br 12 (.br 13 .fin .fin) .fin) .fin) .fin) .fin) .fin)) rfl kR<|AA A5 8 [0,101,5,100,0] (y<|And.intro (by simp only[Fo.len];omega)<|y2<|And.intro (by simp only[Fo.len];omega)<|y2<|λ_=>Ag rfl ?_ Aj)));refine Xb rfl rfl (eC D2 rfl rfl) (λw f hM=>HF 92 Ze HR (λ_ _=>True) (λw f hv hJ t k a c hd hT=>(NA w f hv hJ t k a c).retP) w f hM.vl hM.f6 pk _ _ (Fo.all_true _) hall.1.2.2.1 hM.f2) (λ_=>⟨Cj.mono,tQ⟩) (λe w2 f2 he hE=>⟨rfl,e,f2,rfl,(by simp[Bn,SP.need,Az,he,h2,h3,h4,hn1]),hE⟩) ?_;rintro⟨nds1,xnds1⟩ ands1 cnds1 hnds1;dsimp only at hnds1 ⊢;have hnl:=Eu hnds1;have hpl:=hall.1.2.2.1;refine go A5 1 [] (λ_=>Ax [1] rfl<|Ag rfl ?_ Aj);refine Kx rfl rfl (eC DC rfl rfl) (λw f hM=>ihx w f hM.vl hM.f7 b bk _ _ hall.2.1 hM.f1) (λ_=>⟨AK.mono,tQ⟩) (λe w2 f2 he hE=>⟨rfl,e,f2,rfl,(by simp[Bn,SP.need,Az,he,h2,h3,h4,hn1,hnds1]),hE⟩) ?_;rintro⟨nd1,and1,cnd1⟩ hnd1;dsimp only at hnd1 ⊢;refine go A5 1 [] (λ_=>Ax [1] rfl<|Ag rfl ?_ Aj);refine go A5 2 [] (λb3=>λ_=>Ax [2] rfl<|Ag rfl ?_ Aj);refine DR 0 0 rfl rfl MC rfl rfl rfl rfl rfl rfl rfl rfl (λ_ _=>rfl) oM oM λands2 cnds2=>B5 (λw f=>Cj w f (nds1.app nd1.one) (xnds1++FI nd1.op nd1.ln nd1.co nd1.tx nd1.nm and1 nd1.kids.len cnd1)) (λw f hM=>Cj.app (Cj.one hM.f0) hM.f1) Cj.mono<|Rb (λw f=>AK w f (nds1.app nd1.one) ands2 cnds2) AK.mono (λw f hM=>KX hM hM.f0)<|go A5 1 [] (λ_=>Ax [2] rfl<|Ag rfl ?_ Aj);refine D4 rfl rfl (eC Bq rfl rfl) (λw f hM=>AE _ t _ _ _ _ _ _)<|go A5 1 [] (λ_=>Ax [2] rfl<|Ag rfl ?_ Aj)
 exact go A5 2 [1] (y<|λ_=>Ax [2] rfl<|B4<|go A5 4 [] (λ_=>Bc (λw f hM=>AJ rfl (Ac rfl Bh hM.k1 rfl)) (λw f hM=>⟨(⟨7,t.ln,t.co,[],0,(nds1.app nd1.one)⟩,ands2,cnds2),f,(by simp[nV,Nd.app_len,N.one,N.cons,Nd.len,Nat.add_comm]),(by simp[Bn,SP.need,Az,h2,h3,h4,hn1,hnds1,hnd1]),hM.exm,⟨hM.f0,tQ⟩⟩)));refine AA A5 4 [] (λ_=>Ag rfl ?_ Aj);refine go A5 2 [] (λ_=>Ax [0,1] rfl<|AA A5 1 [] (λ_=>Ag rfl ?_ Aj));refine Be rfl rfl (eC AO rfl rfl) (λw2 f2 he hE=>⟨rfl,_,f2,rfl,(by simp[Bn,SP.need,Az,he,h2,h3,h4]),hE⟩) λhn2=>?_
 cases hn2
 refine AA A5 5 [] (λ_=>Ag rfl ?_ Aj);refine go A5 2 [] (λ_=>Ax [0,1] rfl<|AA A5 6 [] (λ_=>Ag rfl ?_ Aj));refine go A5 2 [] (λ_=>Ax [0,1] rfl<|AA A5 1 [] (λ_=>Ag rfl ?_ Aj));refine Be rfl rfl (eC AO rfl rfl) (λw2 f2 he hE=>⟨rfl,_,f2,rfl,(by simp[Bn,SP.need,Az,he,h2,h3]),hE⟩) λhn3=>?_
 cases hn3
 simp[Fo.len] at h2;refine Dp [0,1] Ap (rd [0,1,2,3,4,5,6] (.br 7 (rd [8,9,10,11,12,13,14] (.br 15 (rd [16,17,18,19,20,21] (.br 22 (.rd 23 (.br 24 .fin .fin)) .fin)) .fin)) .fin)) rfl kR<|AA A5 4 [1] (y<|λ_=>K3 18 rfl (λh5=>?_) (λh5=>?_));exact absurd (by have h9:=beq_iff_eq.1 h5;omega) hne;refine AA A5 3 [] (λ_=>Ag rfl ?_ Aj);refine go A5 2 [] (λ_=>Ax [0,1] rfl<|AA A5 7 [] (λ_=>Ag rfl ?_ Aj));refine go A5 2 [] (λ_=>Ax [0,1] rfl<|AA A5 6 [] (λ_=>Ag rfl ?_ Aj));refine go A5 2 [] (λ_=>Ax [0,1] rfl<|AA A5 1 [] (λ_=>Ag rfl ?_ Aj));refine Be rfl rfl (eC AO rfl rfl) (λw2 f2 he hE=>⟨rfl,_,f2,rfl,(by rw[rK hne]),hE⟩) λhn4=>?_
 cases hn4
 refine go A5 7 [] (λ_=>Ba 53 rfl rfl (λh6=>?_) (λh6=>?_));obtain rfl:=beq_iff_eq.1 h6;refine go A5 2 [] (λ_=>?_);rcases Fo.three l with ⟨p,pk,b,bk,c,ck,rfl⟩|hne
 refine B5 (λw f=>A9 w f la 0 (.cons p pk (.cons b bk (.cons c ck .nil)))) (λw f hM=>Bx.at hM.f0) A9.mono<|C6 (α:=Nat×Nat×Option Addr×Nat) (λx=>la=some ⟨x.1,x.2.1,none⟩) (λx=>[⟨x.1,x.2.1+0*6,J6 p x.2.2.1 pk.len x.2.2.2⟩]) (λx=>[λw f=>Bx w f pk x.2.2.1 x.2.2.2,λw f=>A9 w f la 1 (.cons b bk (.cons c ck .nil))]) (λw f hM=>let ⟨b,off,ka,kc,h1,h2,h3,h4⟩:=A9.head hM.f0;⟨(b,off,ka,kc),h1,(oE h2),A2.mem ⟨h3,h4,tQ⟩⟩) (λx=>Af.mem ⟨Bx.mono,A9.mono,tQ⟩) ?_;rintro⟨eb0,eo0,k0a,k0c⟩ rfl;refine C6 (α:=Nat×Nat×Option Addr×Nat) (λx=>(some (⟨eb0,eo0,none⟩:Addr))=some ⟨x.1,x.2.1,none⟩) (λx=>[⟨x.1,x.2.1+1*6,J6 b x.2.2.1 bk.len x.2.2.2⟩]) (λx=>[λw f=>Bx w f bk x.2.2.1 x.2.2.2,λw f=>A9 w f (some (⟨eb0,eo0,none⟩:Addr)) 2 (.cons c ck .nil)]) (λw f hM=>let ⟨b,off,ka,kc,h1,h2,h3,h4⟩:=A9.head hM.f1;⟨(b,off,ka,kc),h1,(oE h2),A2.mem ⟨h3,h4,tQ⟩⟩) (λx=>Af.mem ⟨Bx.mono,A9.mono,tQ⟩) ?_;rintro⟨eb1,eo1,k1a,k1c⟩ h44;obtain⟨rfl,rfl⟩:eb0=eb1∧eo0=eo1:=by cases h44;exact⟨rfl,rfl⟩
 refine C6 (α:=Nat×Nat×Option Addr×Nat) (λx=>(some (⟨eb0,eo0,none⟩:Addr))=some ⟨x.1,x.2.1,none⟩) (λx=>[⟨x.1,x.2.1+2*6,J6 c x.2.2.1 ck.len x.2.2.2⟩]) (λx=>[λw f=>Bx w f ck x.2.2.1 x.2.2.2,λw f=>A9 w f (some (⟨eb0,eo0,none⟩:Addr)) 3 .nil]) (λw f hM=>let ⟨b,off,ka,kc,h1,h2,h3,h4⟩:=A9.head hM.f1;⟨(b,off,ka,kc),h1,(oE h2),A2.mem ⟨h3,h4,tQ⟩⟩) (λx=>Af.mem ⟨Bx.mono,A9.mono,tQ⟩) ?_;rintro⟨eb2,eo2,k2a,k2c⟩ h44;obtain⟨rfl,rfl⟩:eb0=eb2∧eo0=eo2:=by cases h44;exact⟨rfl,rfl⟩
 refine Dp [0,1] Ap (rd [0,1,2,3,4,5,6] (.br 7 (.rd 8 (.br 9 .fin .fin)) .fin)) rfl kR<|AA A5 4 [1] (y<|λ_=>K3 58 rfl (λh7=>?_) (λh7=>?_));refine AA A5 3 [102,0] (And.intro (by simp only[Fo.len];omega)<|y2<|λ_=>Ag rfl ?_ Aj);refine D4 rfl rfl (eC Ug rfl rfl) (λw f hM=>JI _ (D5.gl hM.f8) p _ hall.1.1.1 hall.1.1.2)<|go A5 1 [] (λ_=>Ax [0,1] rfl<|AA A5 1 [] (λ_=>Ag rfl ?_ Aj));refine Be rfl rfl (eC AO rfl rfl) (λw2 f2 he hE=>⟨rfl,_,f2,rfl,(by simp[Bn,SP.need,Az,he,h1,h7]),hE⟩) λhn5=>go A5 1 [] (λ_=>Ax [0,1] rfl<|B4<|go A5 2 [] (λ_=>Dp [1] Ap (rd [0,1,2,3,4,5,6,7,8,10,11,12] (.br 9 (.br 13 (.br 14 (.br 15 (.br 16 .fin .fin) .fin) .fin) .fin) .fin)) rfl kR<|AA A5 12 [0,102,4,101,0,100,0] (y<|And.intro (by simp only[Fo.len];omega)<|y2<|And.intro (by simp only[Fo.len];omega)<|y2<|And.intro (by simp only[Fo.len];omega)<|y2<|λ_=>Ag rfl ?_ Aj)));refine Kx rfl rfl (eC DC rfl rfl) (λw f hM=>ihx w f hM.vl hM.f8 b bk _ _ hall.2.1 hM.f2) (λ_=>⟨AK.mono,tQ⟩) (λe w2 f2 he hE=>⟨rfl,e,f2,rfl,(by simp[Bn,SP.need,Az,he,h1,h7,hn5]),hE⟩) ?_;rintro⟨nd2,and2,cnd2⟩ hnd2;dsimp only at hnd2 ⊢;refine go A5 1 [] (λ_=>Ax [1] rfl<|Ag rfl ?_ Aj);refine Kx rfl rfl (eC DC rfl rfl) (λw f hM=>ihx w f hM.vl hM.f9 c ck _ _ hall.2.2.1 hM.f1) (λ_=>⟨AK.mono,tQ⟩) (λe w2 f2 he hE=>⟨rfl,e,f2,rfl,(by simp[Bn,SP.need,Az,he,h1,h7,hn5,hnd2]),hE⟩) ?_;rintro⟨nd3,and3,cnd3⟩ hnd3;dsimp only at hnd3 ⊢;refine go A5 1 [] (λ_=>Ax [1] rfl<|Ag rfl ?_ Aj);refine go A5 2 [] (λb4=>λ_=>Ax [2] rfl<|Ag rfl ?_ Aj);refine Dn 0 rfl rfl<|B5 (λw f=>AK w f (nd2.cons (nd3.one)) (some ⟨b4,0,none⟩) 2) (λw f hM=>Cj.toF (Cj.cons' hM.f1 (Cj.cons' hM.f0 (show Cj _ _ .nil [] from rfl))) hM.b0 (Nat.le_refl _)) AK.mono<|D4 rfl rfl (eC Bq rfl rfl) (λw f hM=>AE _ t _ _ _ _ _ _)<|go A5 1 [] (λ_=>Bj [1] Fy rfl (λ_ h=>.tail _ h)<|Ag rfl ?_ Aj);exact go A5 2 [0] (y<|λ_=>Bj [1] Fy rfl (λ_ h=>.tail _ h)<|B4<|go A5 4 [] (λ_=>Bc (λw f hM=>AJ rfl (Ac rfl Bh hM.k0 rfl)) (λw f hM=>⟨(⟨9,t.ln,t.co,p.tx,0,(nd2.cons (nd3.one))⟩,(some ⟨b4,0,none⟩),2),f,rfl,(by simp[Bn,SP.need,Az,h1,h7,hn5,hnd2,hnd3]),hM.exm,⟨hM.f0,tQ⟩⟩)));simp[Fo.len] at h7;refine Dp [0,1] Ap (rd [0,1,2,3,4,5,6] (.br 7 (.rd 8 (.br 9 .fin .fin)) .fin)) rfl kR<|AA A5 4 [1] (y<|λ_=>K3 58 rfl (λh8=>?_) (λh8=>?_));exact absurd (by have h9:=beq_iff_eq.1 h8;omega) hne;refine AA A5 3 [] (λ_=>Ag rfl ?_ Aj);refine go A5 2 [] (λ_=>Ax [0,1] rfl<|AA A5 1 [] (λ_=>Ag rfl ?_ Aj));refine Be rfl rfl (eC AO rfl rfl) (λw2 f2 he hE=>⟨rfl,_,f2,rfl,(by rw[jH hne]),hE⟩) λhn6=>?_
 cases hn6
 refine go A5 7 [] (λ_=>Ba 81 rfl rfl (λh9=>?_) (λh9=>?_));obtain rfl:=beq_iff_eq.1 h9;refine go A5 2 [] (λ_=>?_);rcases Fo.three l with ⟨p,pk,b,bk,c,ck,rfl⟩|hne
 refine B5 (λw f=>A9 w f la 0 (.cons p pk (.cons b bk (.cons c ck .nil)))) (λw f hM=>Bx.at hM.f0) A9.mono<|C6 (α:=Nat×Nat×Option Addr×Nat) (λx=>la=some ⟨x.1,x.2.1,none⟩) (λx=>[⟨x.1,x.2.1+0*6,J6 p x.2.2.1 pk.len x.2.2.2⟩]) (λx=>[λw f=>Bx w f pk x.2.2.1 x.2.2.2,λw f=>A9 w f la 1 (.cons b bk (.cons c ck .nil))]) (λw f hM=>let ⟨b,off,ka,kc,h1,h2,h3,h4⟩:=A9.head hM.f0;⟨(b,off,ka,kc),h1,(oE h2),A2.mem ⟨h3,h4,tQ⟩⟩) (λx=>Af.mem ⟨Bx.mono,A9.mono,tQ⟩) ?_;rintro⟨eb0,eo0,k0a,k0c⟩ rfl;refine C6 (α:=Nat×Nat×Option Addr×Nat) (λx=>(some (⟨eb0,eo0,none⟩:Addr))=some ⟨x.1,x.2.1,none⟩) (λx=>[⟨x.1,x.2.1+1*6,J6 b x.2.2.1 bk.len x.2.2.2⟩]) (λx=>[λw f=>Bx w f bk x.2.2.1 x.2.2.2,λw f=>A9 w f (some (⟨eb0,eo0,none⟩:Addr)) 2 (.cons c ck .nil)]) (λw f hM=>let ⟨b,off,ka,kc,h1,h2,h3,h4⟩:=A9.head hM.f1;⟨(b,off,ka,kc),h1,(oE h2),A2.mem ⟨h3,h4,tQ⟩⟩) (λx=>Af.mem ⟨Bx.mono,A9.mono,tQ⟩) ?_;rintro⟨eb1,eo1,k1a,k1c⟩ h44;obtain⟨rfl,rfl⟩:eb0=eb1∧eo0=eo1:=by cases h44;exact⟨rfl,rfl⟩
 refine C6 (α:=Nat×Nat×Option Addr×Nat) (λx=>(some (⟨eb0,eo0,none⟩:Addr))=some ⟨x.1,x.2.1,none⟩) (λx=>[⟨x.1,x.2.1+2*6,J6 c x.2.2.1 ck.len x.2.2.2⟩]) (λx=>[λw f=>Bx w f ck x.2.2.1 x.2.2.2,λw f=>A9 w f (some (⟨eb0,eo0,none⟩:Addr)) 3 .nil]) (λw f hM=>let ⟨b,off,ka,kc,h1,h2,h3,h4⟩:=A9.head hM.f1;⟨(b,off,ka,kc),h1,(oE h2),A2.mem ⟨h3,h4,tQ⟩⟩) (λx=>Af.mem ⟨Bx.mono,A9.mono,tQ⟩) ?_;rintro⟨eb2,eo2,k2a,k2c⟩ h44;obtain⟨rfl,rfl⟩:eb0=eb2∧eo0=eo2:=by cases h44;exact⟨rfl,rfl⟩
 refine Dp [0,1] Ap (rd [0,1,2,3,4,5,6] (.br 7 (rd [8,9,10,11,12] (.br 13 (.rd 14 (.br 15 .fin .fin)) .fin)) .fin)) rfl kR<|AA A5 4 [1] (y<|λ_=>K3 86 rfl (λh10=>?_) (λh10=>?_));refine AA A5 3 [102,0] (And.intro (by simp only[Fo.len];omega)<|y2<|λ_=>Ag rfl ?_ Aj);refine D4 rfl rfl (eC Om rfl rfl) (λw f hM=>Ff _ (D5.gl hM.f8) p _ hall.1.1.1 hall.1.1.2)<|go A5 1 [] (λ_=>Ax [0,1] rfl<|AA A5 2 [] (λ_=>K3 92 rfl (λh11=>?_) (λh11=>?_)));refine AA A5 3 [101,0] (And.intro (by simp only[Fo.len];omega)<|y2<|λ_=>Ag rfl ?_ Aj);refine BA rfl rfl (eC ZD rfl rfl) (λw f hM=>Oq w f hM.vl b bk _ _ hM.f2) (λ_=>trivial) ?_;rintro⟨⟩ -;refine go A5 1 [] (λ_=>Ax [0,1] rfl<|AA A5 1 [] (λ_=>Ag rfl ?_ Aj));refine Be rfl rfl (eC AO rfl rfl) (λw2 f2 he hE=>⟨rfl,_,f2,rfl,(by simp[Bn,SP.need,Az,he,h1,h6,h10,h11]),hE⟩) λhn7=>go A5 1 [] (λ_=>Ax [0,1] rfl<|B4<|go A5 2 [] (λ_=>Dp [1] Ap (rd [0,1,2,3,4,5,6,7,8,10,11,12] (.br 9 (.br 13 (.br 14 (.br 15 (.br 16 .fin .fin) .fin) .fin) .fin) .fin)) rfl kR<|AA A5 12 [0,102,4,101,0,100,0] (y<|And.intro (by simp only[Fo.len];omega)<|y2<|And.intro (by simp only[Fo.len];omega)<|y2<|And.intro (by simp only[Fo.len];omega)<|y2<|λ_=>Ag rfl ?_ Aj)));refine Kx rfl rfl (eC DC rfl rfl) (λw f hM=>ihx w f hM.vl hM.f8 b bk _ _ hall.2.1 hM.f2) (λ_=>⟨AK.mono,tQ⟩) (λe w2 f2 he hE=>⟨rfl,e,f2,rfl,(by simp[Bn,SP.need,Az,he,h1,h6,h10,h11,hn7]),hE⟩) ?_;rintro⟨nd4,and4,cnd4⟩ hnd4;dsimp only at hnd4 ⊢;refine go A5 1 [] (λ_=>Ax [1] rfl<|Ag rfl ?_ Aj);refine Kx rfl rfl (eC DC rfl rfl) (λw f hM=>ihx w f hM.vl hM.f9 c ck _ _ hall.2.2.1 hM.f1) (λ_=>⟨AK.mono,tQ⟩) (λe w2 f2 he hE=>⟨rfl,e,f2,rfl,(by simp[Bn,SP.need,Az,he,h1,h6,h10,h11,hn7,hnd4]),hE⟩) ?_;rintro⟨nd5,and5,cnd5⟩ hnd5;dsimp only at hnd5 ⊢;refine go A5 1 [] (λ_=>Ax [1] rfl<|Ag rfl ?_ Aj);refine go A5 2 [] (λb5=>λ_=>Ax [2] rfl<|Ag rfl ?_ Aj);refine Dn 0 rfl rfl<|B5 (λw f=>AK w f (nd4.cons (nd5.one)) (some ⟨b5,0,none⟩) 2) (λw f hM=>Cj.toF (Cj.cons' hM.f1 (Cj.cons' hM.f0 (show Cj _ _ .nil [] from rfl))) hM.b0 (Nat.le_refl _)) AK.mono<|D4 rfl rfl (eC Bq rfl rfl) (λw f hM=>AE _ t _ _ _ _ _ _)<|go A5 1 [] (λ_=>Bj [1] Fy rfl (λ_ h=>.tail _ h)<|Ag rfl ?_ Aj);exact go A5 2 [0] (y<|λ_=>Bj [1] Fy rfl (λ_ h=>.tail _ h)<|B4<|go A5 4 [] (λ_=>Bc (λw f hM=>AJ rfl (Ac rfl Bh hM.k0 rfl)) (λw f hM=>⟨(⟨10,t.ln,t.co,p.tx,0,(nd4.cons (nd5.one))⟩,(some ⟨b5,0,none⟩),2),f,rfl,(by simp[Bn,SP.need,Az,h1,h6,h10,h11,hn7,hnd4,hnd5]),hM.exm,⟨hM.f0,tQ⟩⟩)));refine AA A5 3 [] (λ_=>Ag rfl ?_ Aj);refine go A5 2 [] (λ_=>Ax [0,1] rfl<|AA A5 1 [] (λ_=>Ag rfl ?_ Aj));refine Be rfl rfl (eC AO rfl rfl) (λw2 f2 he hE=>⟨rfl,_,f2,rfl,(by simp[Bn,SP.need,Az,he,h1,h6,h10,h11]),hE⟩) λhn8=>?_
 cases hn8
 simp[Fo.len] at h10;refine Dp [0,1] Ap (rd [0,1,2,3,4,5,6] (.br 7 (rd [8,9,10,11,12] (.br 13 (.rd 14 (.br 15 .fin .fin)) .fin)) .fin)) rfl kR<|AA A5 4 [1] (y<|λ_=>K3 86 rfl (λh12=>?_) (λh12=>?_));exact absurd (by have h9:=beq_iff_eq.1 h12;omega) hne;refine AA A5 3 [] (λ_=>Ag rfl ?_ Aj);refine go A5 2 [] (λ_=>Ax [0,1] rfl<|AA A5 5 [] (λ_=>Ag rfl ?_ Aj));refine go A5 2 [] (λ_=>Ax [0,1] rfl<|AA A5 1 [] (λ_=>Ag rfl ?_ Aj));refine Be rfl rfl (eC AO rfl rfl) (λw2 f2 he hE=>⟨rfl,_,f2,rfl,(by rw[mG hne]),hE⟩) λhn9=>?_
 cases hn9
 refine go A5 7 [] (λ_=>Ba 115 rfl rfl (λh13=>?_) (λh13=>?_));obtain rfl:=beq_iff_eq.1 h13;refine go A5 6 [1] (y<|λ_=>Be rfl rfl (eC AO rfl rfl) (λw2 f2 he hE=>⟨rfl,_,f2,rfl,(by simp[Bn,SP.need,Az,he,h1,h6,h9]),hE⟩) λhn10=>go A5 3 [] (λ_=>Dp [1] Ap (.rd 0 (.rd 1 (.br 2 (.br 3 (.br 4 .fin .fin) .fin) .fin))) rfl kR<|AA A5 2 [0] (y<|λ_=>Ag rfl ?_ Aj)));refine Kx rfl rfl (eC D2 rfl rfl) (λw f hM=>Ca 38 DC (By (n+1)) (Hb n) (λw f hv hJ t k a c hd hT=>ihx w f hv hJ t k a c hd hT) w f hM.vl hM.f1 l _ _ hall hlen hM.f0) (λ_=>⟨AK.mono,tQ⟩) (λe w2 f2 he hE=>⟨rfl,e,f2,rfl,(by simp[Bn,SP.need,Az,he,h1,h6,h9,hn10]),hE⟩) ?_;rintro⟨⟨nds5,xnds5⟩,ands5,cnds5⟩ hnds5;dsimp only at hnds5 ⊢;refine go A5 1 [] (λ_=>Ax [1] rfl<|Ag rfl ?_ Aj);refine D4 rfl rfl (eC Bq rfl rfl) (λw f hM=>AE _ t _ _ _ _ _ _)<|go A5 1 [] (λ_=>Ax [1] rfl<|Ag rfl ?_ Aj);exact go A5 2 [0] (y<|λ_=>Ax [1] rfl<|B4<|go A5 4 [] (λ_=>Bc (λw f hM=>AJ rfl (Ac rfl Bh hM.k0 rfl)) (λw f hM=>⟨(⟨11,t.ln,t.co,[],0,nds5⟩,ands5,cnds5),f,rfl,(by simp[Bn,SP.need,Az,h1,h6,h9,hn10,hnds5]),hM.exm,⟨hM.f0,tQ⟩⟩)));refine go A5 7 [] (λ_=>Ba 125 rfl rfl (λh14=>?_) (λh14=>?_));obtain rfl:=beq_iff_eq.1 h14;refine go A5 6 [1] (y<|λ_=>Be rfl rfl (eC AO rfl rfl) (λw2 f2 he hE=>⟨rfl,_,f2,rfl,(by simp[Bn,SP.need,Az,he,h1,h6,h9,h13]),hE⟩) λhn11=>go A5 3 [] (λ_=>Dp [1] Ap (.rd 0 (.rd 1 (.br 2 (.br 3 (.br 4 .fin .fin) .fin) .fin))) rfl kR<|AA A5 2 [0] (y<|λ_=>Ag rfl ?_ Aj)));refine Kx rfl rfl (eC D2 rfl rfl) (λw f hM=>Ca 38 DC (By (n+1)) (Hb n) (λw f hv hJ t k a c hd hT=>ihx w f hv hJ t k a c hd hT) w f hM.vl hM.f1 l _ _ hall hlen hM.f0) (λ_=>⟨AK.mono,tQ⟩) (λe w2 f2 he hE=>⟨rfl,e,f2,rfl,(by simp[Bn,SP.need,Az,he,h1,h6,h9,h13,hn11]),hE⟩) ?_;rintro⟨⟨nds6,xnds6⟩,ands6,cnds6⟩ hnds6;dsimp only at hnds6 ⊢;refine go A5 1 [] (λ_=>Ax [1] rfl<|Ag rfl ?_ Aj);refine D4 rfl rfl (eC Bq rfl rfl) (λw f hM=>AE _ t _ _ _ _ _ _)<|go A5 1 [] (λ_=>Ax [1] rfl<|Ag rfl ?_ Aj);exact go A5 2 [0] (y<|λ_=>Ax [1] rfl<|B4<|go A5 4 [] (λ_=>Bc (λw f hM=>AJ rfl (Ac rfl Bh hM.k0 rfl)) (λw f hM=>⟨(⟨12,t.ln,t.co,[],0,nds6⟩,ands6,cnds6),f,rfl,(by simp[Bn,SP.need,Az,h1,h6,h9,h13,hn11,hnds6]),hM.exm,⟨hM.f0,tQ⟩⟩)));refine go A5 7 [] (λ_=>Ba 135 rfl rfl (λh15=>?_) (λh15=>?_));obtain rfl:=beq_iff_eq.1 h15;refine go A5 2 [] (λ_=>Dp [0,1] Ap (.rd 0 (.rd 1 (.br 2 (.br 3 .fin .fin) .fin))) rfl kR<|AA A5 2 [1] (y<|λ_=>Ag rfl ?_ Aj));refine D4 rfl rfl (eC Jm rfl rfl) (λw f hM=>Dw _ _ _ _)<|go A5 1 [] (λ_=>Ax [0,1] rfl<|Ag rfl ?_ Aj);refine Be rfl rfl (eC AO rfl rfl) (λw2 f2 he hE=>⟨rfl,_,f2,rfl,(by simp[Bn,SP.need,Az,he,h1,h6,h9,h13,h14]),hE⟩) λhn12=>go A5 1 [] (λ_=>Ax [0,1] rfl<|B4<|go A5 2 [] (λ_=>Dp [1] Ap (.rd 0 (.rd 1 (.br 2 (.br 3 (.br 4 .fin .fin) .fin) .fin))) rfl kR<|AA A5 2 [0] (y<|λ_=>Ag rfl ?_ Aj)))
 refine Kx rfl rfl (eC D2 rfl rfl) (λw f hM=>Ca 38 DC (By (n+1)) (Hb n) (λw f hv hJ t k a c hd hT=>ihx w f hv hJ t k a c hd hT) w f hM.vl hM.f1 l _ _ hall hlen hM.f0) (λ_=>⟨AK.mono,tQ⟩) (λe w2 f2 he hE=>⟨rfl,e,f2,rfl,(by simp[Bn,SP.need,Az,he,h1,h6,h9,h13,h14,hn12]),hE⟩) ?_;rintro⟨⟨nds7,xnds7⟩,ands7,cnds7⟩ hnds7;dsimp only at hnds7 ⊢;refine go A5 1 [] (λ_=>Ax [1] rfl<|Ag rfl ?_ Aj);refine D4 rfl rfl (eC Bq rfl rfl) (λw f hM=>AE _ t _ _ _ _ _ _)<|go A5 1 [] (λ_=>Ax [1] rfl<|Ag rfl ?_ Aj);exact go A5 2 [0] (y<|λ_=>Ax [1] rfl<|B4<|go A5 4 [] (λ_=>Bc (λw f hM=>AJ rfl (Ac rfl Bh hM.k0 rfl)) (λw f hM=>⟨(⟨13,t.ln,t.co,[],0,nds7⟩,ands7,cnds7),f,rfl,(by simp[Bn,SP.need,Az,h1,h6,h9,h13,h14,hn12,hnds7]),hM.exm,⟨hM.f0,tQ⟩⟩)));refine go A5 8 [] (λ_=>Ba 145 rfl rfl (λEe=>?_) (λEe=>?_));obtain rfl:=beq_iff_eq.1 Ee;refine go A5 5 [] (λ_=>go A5 4 [1] (y<|λ_=>Be rfl rfl (eC AO rfl rfl) (λw2 f2 he hE=>⟨rfl,_,f2,rfl,(by simp[Bn,SP.need,Az,he,h1,h6,h9,h13,h14,h15]),hE⟩) λhn13=>go A5 18 [] (λ_=>?_)));obtain⟨p,pk,r,rfl⟩:=Fo.cases1 l (by have:=of_decide_eq_true hn13;omega);have hge:0<r.len:=by have h9:=of_decide_eq_true hn13;simp only[Fo.len] at h9;omega
 have hlr:r.len+1≤100000:=hlen;refine B5 (λw f=>Bx w f r (DA la lc 6) (lc-1)) (λw f hM=>A9.rest hM.f0) Bx.mono<|B5 (λw f=>A9 w f la 0 (.cons p pk r)) (λw f hM=>Bx.at hM.f1) A9.mono<|C6 (α:=Nat×Nat×Option Addr×Nat) (λx=>la=some ⟨x.1,x.2.1,none⟩) (λx=>[⟨x.1,x.2.1+0*6,J6 p x.2.2.1 pk.len x.2.2.2⟩]) (λx=>[λw f=>Bx w f pk x.2.2.1 x.2.2.2,λw f=>A9 w f la 1 r]) (λw f hM=>let ⟨b,off,ka,kc,h1,h2,h3,h4⟩:=A9.head hM.f0;⟨(b,off,ka,kc),h1,(oE h2),A2.mem ⟨h3,h4,tQ⟩⟩) (λx=>Af.mem ⟨Bx.mono,A9.mono,tQ⟩) ?_;rintro⟨eb0,eo0,k0a,k0c⟩ rfl;refine Dp [1] Ap (rd [0,1,2,3,4,7,8] (.br 5 (.br 6 (.br 9 (.br 10 (.br 11 (.br 12 .fin .fin) .fin) .fin) .fin) (.br 9 (.br 6 (.br 10 (.br 11 (.br 12 .fin .fin) .fin) .fin) .fin) .fin)) .fin)) rfl kR<|AA A5 6 [0,100,0] (y<|And.intro (by simp only[Fo.len];omega)<|y2<|λ_=>Ik rfl rfl rfl (λw hK=>Hz rfl rfl rfl Gq)<|Ag rfl ?_ Aj);refine Kx rfl rfl (eC DC rfl rfl) (λw f hM=>ihx w f hM.vl hM.f5 p pk _ _ hall.1 hM.f0) (λ_=>⟨AK.mono,tQ⟩) (λe w2 f2 he hE=>⟨rfl,e,f2,rfl,(by simp[Bn,SP.need,Az,he,h1,h6,h9,h13,h14,h15,hn13]),hE⟩) ?_;rintro⟨nd6,and6,cnd6⟩ hnd6;dsimp only at hnd6 ⊢;refine go A5 1 [] (λ_=>Ax [1] rfl<|Ag rfl ?_ ?_);refine go A5 2 [] (λb6=>λ_=>Ax [2] rfl<|Ag rfl ?_ Aj);refine Xb rfl rfl (eC D2 rfl rfl) (λw f hM=>HF 94 Qv (Gv (n+1) (By (n+1))) (Hb n) (λw f hv hJ t k a c hd hT=>iha w f hv hJ t k a c hd hT) w f hM.vl hM.f6 r _ _ hall.2 oM hM.f4) (λ_=>⟨Cj.mono,tQ⟩) (λe w2 f2 he hE=>⟨rfl,e,f2,rfl,(by simp[Bn,SP.need,Az,he,h1,h6,h9,h13,h14,h15,hn13,hnd6]),hE⟩) ?_;rintro⟨nds8,xnds8⟩ ands8 cnds8 hnds8;dsimp only at hnds8 ⊢;have hnl:=Eu hnds8;refine KA (p:=∃rb,ands8=some ⟨rb,0,none⟩) (λw f hM=>by rcases (hM.row _ (.head _)).2 with ⟨_,_,h9⟩|⟨ob,_,h9,_⟩;(dsimp only at h9;omega);exact⟨ob,h9⟩) λhob=>?_;obtain⟨rb,rfl⟩:=hob;refine gD 0 rfl rfl<|go A5 1 [] (λ_=>Bj [2] Fy rfl (λ_ h=>.tail _ h)<|Ag rfl ?_ Aj);refine rE 0 6 1 rfl rfl rfl dC<|KA (p:=xnds8.length=nds8.len*6∧∀v∈xnds8,v.oneCell'=true) (λw f hM=>⟨Cj.len hM.f0,Cj.one' hM.f0⟩) λ⟨hxl,hx1⟩=>WN 0 0 rfl rfl MC rfl rfl rfl rfl rfl rfl hxl hx1 oM (λ_ _=>rfl) oM oM λands9 cnds9=>B5 (λw f=>Cj w f (nd6.cons nds8) (FI nd6.op nd6.ln nd6.co nd6.tx nd6.nm and6 nd6.kids.len cnd6++xnds8)) (λw f hM=>Cj.cons' hM.f1 hM.f0) Cj.mono<|Rb (λw f=>AK w f (nd6.cons nds8) ands9 cnds9) AK.mono (λw f hM=>KX hM hM.f0)<|go A5 1 [] (λ_=>Bj [1] Fy rfl (λ_ h=>.tail _ h)<|Ag rfl ?_ Aj);refine D4 rfl rfl (eC Bq rfl rfl) (λw f hM=>AE _ t _ _ _ _ _ _)<|go A5 1 [] (λ_=>Bj [1] Fy rfl (λ_ h=>.tail _ h)<|Ag rfl ?_ Aj);exact go A5 2 [0] (y<|λ_=>Bj [1] Fy rfl (λ_ h=>.tail _ h)<|B4<|go A5 4 [] (λ_=>Bc (λw f hM=>AJ rfl (Ac rfl Bh hM.k0 rfl)) (λw f hM=>⟨(⟨14,t.ln,t.co,[],0,(nd6.cons nds8)⟩,ands9,cnds9),f,(by simp[nV,Nd.app_len,N.one,N.cons,Nd.len,Nat.add_comm]),(by simp[Bn,SP.need,Az,h1,h6,h9,h13,h14,h15,hn13,hnd6,hnds8]),hM.exm,⟨hM.f0,tQ⟩⟩)));refine Ag rfl ?_ Aj
 refine Xb rfl rfl (eC D2 rfl rfl) (λw f hM=>HF 94 Qv (Gv (n+1) (By (n+1))) (Hb n) (λw f hv hJ t k a c hd hT=>iha w f hv hJ t k a c hd hT) w f hM.vl hM.f6 r _ _ hall.2 oM hM.f4) (λ_=>⟨Cj.mono,tQ⟩) (λe w2 f2 he hE=>⟨rfl,e,f2,rfl,(by simp[Bn,SP.need,Az,he,h1,h6,h9,h13,h14,h15,hn13,hnd6]),hE⟩) ?_;rintro⟨nds10,xnds10⟩ ands10 cnds10 hnds10;dsimp only at hnds10 ⊢;have hnl:=Eu hnds10;refine KA (p:=∃rb,ands10=some ⟨rb,0,none⟩) (λw f hM=>by rcases (hM.row _ (.head _)).2 with ⟨_,_,h9⟩|⟨ob,_,h9,_⟩;(dsimp only at h9;omega);exact⟨ob,h9⟩) λhob=>?_;obtain⟨rb,rfl⟩:=hob;refine gD 0 rfl rfl<|go A5 1 [] (λ_=>Bj [1] Fy rfl (λ_ h=>.tail _ h)<|Ag rfl ?_ Aj);refine go A5 2 [] (λb7=>λ_=>Bj [2] Fy rfl (λ_ h=>.tail _ h)<|Ag rfl ?_ Aj);refine rE 0 6 1 rfl rfl rfl dC<|KA (p:=xnds10.length=nds10.len*6∧∀v∈xnds10,v.oneCell'=true) (λw f hM=>⟨Cj.len hM.f0,Cj.one' hM.f0⟩) λ⟨hxl,hx1⟩=>WN 0 0 rfl rfl MC rfl rfl rfl rfl rfl rfl hxl hx1 oM (λ_ _=>rfl) oM oM λands11 cnds11=>B5 (λw f=>Cj w f (nd6.cons nds10) (FI nd6.op nd6.ln nd6.co nd6.tx nd6.nm and6 nd6.kids.len cnd6++xnds10)) (λw f hM=>Cj.cons' hM.f1 hM.f0) Cj.mono<|Rb (λw f=>AK w f (nd6.cons nds10) ands11 cnds11) AK.mono (λw f hM=>KX hM hM.f0)<|go A5 1 [] (λ_=>Bj [1] Fy rfl (λ_ h=>.tail _ h)<|Ag rfl ?_ Aj);refine D4 rfl rfl (eC Bq rfl rfl) (λw f hM=>AE _ t _ _ _ _ _ _)<|go A5 1 [] (λ_=>Bj [1] Fy rfl (λ_ h=>.tail _ h)<|Ag rfl ?_ Aj);exact go A5 2 [0] (y<|λ_=>Bj [1] Fy rfl (λ_ h=>.tail _ h)<|B4<|go A5 4 [] (λ_=>Bc (λw f hM=>AJ rfl (Ac rfl Bh hM.k0 rfl)) (λw f hM=>⟨(⟨14,t.ln,t.co,[],0,(nd6.cons nds10)⟩,ands11,cnds11),f,(by simp[nV,Nd.app_len,N.one,N.cons,Nd.len,Nat.add_comm]),(by simp[Bn,SP.need,Az,h1,h6,h9,h13,h14,h15,hn13,hnd6,hnds10]),hM.exm,⟨hM.f0,tQ⟩⟩)));refine go A5 6 [] (λ_=>Ba 145 rfl rfl (λh17=>?_) (λh17=>?_));obtain rfl:=beq_iff_eq.1 h17;refine go A5 2 [] (λ_=>go A5 4 [1] (y<|λ_=>Be rfl rfl (eC AO rfl rfl) (λw2 f2 he hE=>⟨rfl,_,f2,rfl,(by simp[Bn,SP.need,Az,he,h1,h6,h9,h13,h14,h15,Ee]),hE⟩) λhn14=>go A5 20 [] (λ_=>?_)));obtain⟨p,pk,r,rfl⟩:=Fo.cases1 l (by have:=of_decide_eq_true hn14;omega);have hge:0<r.len:=by have h9:=of_decide_eq_true hn14;simp only[Fo.len] at h9;omega
 have hlr:r.len+1≤100000:=hlen;refine B5 (λw f=>Bx w f r (DA la lc 6) (lc-1)) (λw f hM=>A9.rest hM.f0) Bx.mono<|B5 (λw f=>A9 w f la 0 (.cons p pk r)) (λw f hM=>Bx.at hM.f1) A9.mono<|C6 (α:=Nat×Nat×Option Addr×Nat) (λx=>la=some ⟨x.1,x.2.1,none⟩) (λx=>[⟨x.1,x.2.1+0*6,J6 p x.2.2.1 pk.len x.2.2.2⟩]) (λx=>[λw f=>Bx w f pk x.2.2.1 x.2.2.2,λw f=>A9 w f la 1 r]) (λw f hM=>let ⟨b,off,ka,kc,h1,h2,h3,h4⟩:=A9.head hM.f0;⟨(b,off,ka,kc),h1,(oE h2),A2.mem ⟨h3,h4,tQ⟩⟩) (λx=>Af.mem ⟨Bx.mono,A9.mono,tQ⟩) ?_;rintro⟨eb0,eo0,k0a,k0c⟩ rfl;refine Dp [1] Ap (rd [0,1,2,3,4,7,8] (.br 5 (.br 6 (.br 9 (.br 10 (.br 11 (.br 12 .fin .fin) .fin) .fin) .fin) (.br 9 (.br 6 (.br 10 (.br 11 (.br 12 .fin .fin) .fin) .fin) .fin) .fin)) .fin)) rfl kR<|AA A5 6 [0,100,0] (y<|And.intro (by simp only[Fo.len];omega)<|y2<|λ_=>Ik rfl rfl rfl (λw hK=>Hz rfl rfl rfl Gq)<|Ag rfl ?_ Aj);refine Kx rfl rfl (eC DC rfl rfl) (λw f hM=>ihx w f hM.vl hM.f5 p pk _ _ hall.1 hM.f0) (λ_=>⟨AK.mono,tQ⟩) (λe w2 f2 he hE=>⟨rfl,e,f2,rfl,(by simp[Bn,SP.need,Az,he,h1,h6,h9,h13,h14,h15,Ee,hn14]),hE⟩) ?_;rintro⟨nd7,and7,cnd7⟩ hnd7;dsimp only at hnd7 ⊢;refine go A5 1 [] (λ_=>Ax [1] rfl<|Ag rfl ?_ ?_);refine go A5 2 [] (λb8=>λ_=>Ax [2] rfl<|Ag rfl ?_ Aj);refine Xb rfl rfl (eC D2 rfl rfl) (λw f hM=>HF 94 Qv (Gv (n+1) (By (n+1))) (Hb n) (λw f hv hJ t k a c hd hT=>iha w f hv hJ t k a c hd hT) w f hM.vl hM.f6 r _ _ hall.2 oM hM.f4) (λ_=>⟨Cj.mono,tQ⟩) (λe w2 f2 he hE=>⟨rfl,e,f2,rfl,(by simp[Bn,SP.need,Az,he,h1,h6,h9,h13,h14,h15,Ee,hn14,hnd7]),hE⟩) ?_;rintro⟨nds12,xnds12⟩ ands12 cnds12 hnds12;dsimp only at hnds12 ⊢;have hnl:=Eu hnds12;refine KA (p:=∃rb,ands12=some ⟨rb,0,none⟩) (λw f hM=>by rcases (hM.row _ (.head _)).2 with ⟨_,_,h9⟩|⟨ob,_,h9,_⟩;(dsimp only at h9;omega);exact⟨ob,h9⟩) λhob=>?_;obtain⟨rb,rfl⟩:=hob;refine gD 0 rfl rfl<|go A5 1 [] (λ_=>Bj [2] Fy rfl (λ_ h=>.tail _ h)<|Ag rfl ?_ Aj);refine rE 0 6 1 rfl rfl rfl dC<|KA (p:=xnds12.length=nds12.len*6∧∀v∈xnds12,v.oneCell'=true) (λw f hM=>⟨Cj.len hM.f0,Cj.one' hM.f0⟩) λ⟨hxl,hx1⟩=>WN 0 0 rfl rfl MC rfl rfl rfl rfl rfl rfl hxl hx1 oM (λ_ _=>rfl) oM oM λands13 cnds13=>B5 (λw f=>Cj w f (nd7.cons nds12) (FI nd7.op nd7.ln nd7.co nd7.tx nd7.nm and7 nd7.kids.len cnd7++xnds12)) (λw f hM=>Cj.cons' hM.f1 hM.f0) Cj.mono<|Rb (λw f=>AK w f (nd7.cons nds12) ands13 cnds13) AK.mono (λw f hM=>KX hM hM.f0)<|go A5 1 [] (λ_=>Bj [1] Fy rfl (λ_ h=>.tail _ h)<|Ag rfl ?_ Aj);refine D4 rfl rfl (eC Bq rfl rfl) (λw f hM=>AE _ t _ _ _ _ _ _)<|go A5 1 [] (λ_=>Bj [1] Fy rfl (λ_ h=>.tail _ h)<|Ag rfl ?_ Aj);exact go A5 2 [0] (y<|λ_=>Bj [1] Fy rfl (λ_ h=>.tail _ h)<|B4<|go A5 4 [] (λ_=>Bc (λw f hM=>AJ rfl (Ac rfl Bh hM.k0 rfl)) (λw f hM=>⟨(⟨15,t.ln,t.co,[],0,(nd7.cons nds12)⟩,ands13,cnds13),f,(by simp[nV,Nd.app_len,N.one,N.cons,Nd.len,Nat.add_comm]),(by simp[Bn,SP.need,Az,h1,h6,h9,h13,h14,h15,Ee,hn14,hnd7,hnds12]),hM.exm,⟨hM.f0,tQ⟩⟩)))
 refine Ag rfl ?_ Aj;refine Xb rfl rfl (eC D2 rfl rfl) (λw f hM=>HF 94 Qv (Gv (n+1) (By (n+1))) (Hb n) (λw f hv hJ t k a c hd hT=>iha w f hv hJ t k a c hd hT) w f hM.vl hM.f6 r _ _ hall.2 oM hM.f4) (λ_=>⟨Cj.mono,tQ⟩) (λe w2 f2 he hE=>⟨rfl,e,f2,rfl,(by simp[Bn,SP.need,Az,he,h1,h6,h9,h13,h14,h15,Ee,hn14,hnd7]),hE⟩) ?_;rintro⟨nds14,xnds14⟩ ands14 cnds14 hnds14;dsimp only at hnds14 ⊢;have hnl:=Eu hnds14;refine KA (p:=∃rb,ands14=some ⟨rb,0,none⟩) (λw f hM=>by rcases (hM.row _ (.head _)).2 with ⟨_,_,h9⟩|⟨ob,_,h9,_⟩;(dsimp only at h9;omega);exact⟨ob,h9⟩) λhob=>?_;obtain⟨rb,rfl⟩:=hob;refine gD 0 rfl rfl<|go A5 1 [] (λ_=>Bj [1] Fy rfl (λ_ h=>.tail _ h)<|Ag rfl ?_ Aj);refine go A5 2 [] (λb9=>λ_=>Bj [2] Fy rfl (λ_ h=>.tail _ h)<|Ag rfl ?_ Aj);refine rE 0 6 1 rfl rfl rfl dC<|KA (p:=xnds14.length=nds14.len*6∧∀v∈xnds14,v.oneCell'=true) (λw f hM=>⟨Cj.len hM.f0,Cj.one' hM.f0⟩) λ⟨hxl,hx1⟩=>WN 0 0 rfl rfl MC rfl rfl rfl rfl rfl rfl hxl hx1 oM (λ_ _=>rfl) oM oM λands15 cnds15=>B5 (λw f=>Cj w f (nd7.cons nds14) (FI nd7.op nd7.ln nd7.co nd7.tx nd7.nm and7 nd7.kids.len cnd7++xnds14)) (λw f hM=>Cj.cons' hM.f1 hM.f0) Cj.mono<|Rb (λw f=>AK w f (nd7.cons nds14) ands15 cnds15) AK.mono (λw f hM=>KX hM hM.f0)<|go A5 1 [] (λ_=>Bj [1] Fy rfl (λ_ h=>.tail _ h)<|Ag rfl ?_ Aj);refine D4 rfl rfl (eC Bq rfl rfl) (λw f hM=>AE _ t _ _ _ _ _ _)<|go A5 1 [] (λ_=>Bj [1] Fy rfl (λ_ h=>.tail _ h)<|Ag rfl ?_ Aj);exact go A5 2 [0] (y<|λ_=>Bj [1] Fy rfl (λ_ h=>.tail _ h)<|B4<|go A5 4 [] (λ_=>Bc (λw f hM=>AJ rfl (Ac rfl Bh hM.k0 rfl)) (λw f hM=>⟨(⟨15,t.ln,t.co,[],0,(nd7.cons nds14)⟩,ands15,cnds15),f,(by simp[nV,Nd.app_len,N.one,N.cons,Nd.len,Nat.add_comm]),(by simp[Bn,SP.need,Az,h1,h6,h9,h13,h14,h15,Ee,hn14,hnd7,hnds14]),hM.exm,⟨hM.f0,tQ⟩⟩)));refine go A5 8 [] (λ_=>Ba 166 rfl rfl (λh18=>?_) (λh18=>?_));obtain rfl:=beq_iff_eq.1 h18;refine go A5 5 [] (λ_=>?_);rcases Fo.single l with ⟨p,pk,rfl⟩|hne
 refine B5 (λw f=>A9 w f la 0 (.cons p pk .nil)) (λw f hM=>Bx.at hM.f0) A9.mono<|C6 (α:=Nat×Nat×Option Addr×Nat) (λx=>la=some ⟨x.1,x.2.1,none⟩) (λx=>[⟨x.1,x.2.1+0*6,J6 p x.2.2.1 pk.len x.2.2.2⟩]) (λx=>[λw f=>Bx w f pk x.2.2.1 x.2.2.2,λw f=>A9 w f la 1 .nil]) (λw f hM=>let ⟨b,off,ka,kc,h1,h2,h3,h4⟩:=A9.head hM.f0;⟨(b,off,ka,kc),h1,(oE h2),A2.mem ⟨h3,h4,tQ⟩⟩) (λx=>Af.mem ⟨Bx.mono,A9.mono,tQ⟩) ?_;rintro⟨eb0,eo0,k0a,k0c⟩ rfl;refine go A5 4 [1] (y<|λ_=>Be rfl rfl (eC AO rfl rfl) (λw2 f2 he hE=>⟨rfl,_,f2,rfl,(by simp[Fo.len] at he),hE⟩) λhn15=>go A5 18 [] (λ_=>Dp [1] Ap (rd [0,1,2,3,4] (.br 5 (.br 6 (.br 7 (.br 8 .fin .fin) .fin) .fin) .fin)) rfl kR<|AA A5 5 [0,100,0] (y<|And.intro (by simp only[Fo.len];omega)<|y2<|λ_=>Ag rfl ?_ Aj)));refine Kx rfl rfl (eC DC rfl rfl) (λw f hM=>ihx w f hM.vl hM.f4 p pk _ _ hall.1 hM.f0) (λ_=>⟨AK.mono,tQ⟩) (λe w2 f2 he hE=>⟨rfl,e,f2,rfl,(by simp[Bn,SP.need,Az,he,h1,h6,h9,h13,h14,h15,Ee,h17,hn15]),hE⟩) ?_;rintro⟨nd8,and8,cnd8⟩ hnd8;dsimp only at hnd8 ⊢;refine go A5 1 [] (λ_=>Ax [1] rfl<|Ag rfl ?_ Aj);refine go A5 2 [] (λb10=>λ_=>Ax [2] rfl<|Ag rfl ?_ Aj);refine Dn 0 rfl rfl<|B5 (λw f=>AK w f (nd8.one) (some ⟨b10,0,none⟩) 1) (λw f hM=>Cj.toF (Cj.cons' hM.f0 (show Cj _ _ .nil [] from rfl)) hM.b0 (Nat.le_refl _)) AK.mono<|D4 rfl rfl (eC Bq rfl rfl) (λw f hM=>AE _ t _ _ _ _ _ _)<|go A5 1 [] (λ_=>Bj [1] Fy rfl (λ_ h=>.tail _ h)<|Ag rfl ?_ Aj);exact go A5 2 [0] (y<|λ_=>Bj [1] Fy rfl (λ_ h=>.tail _ h)<|B4<|go A5 4 [] (λ_=>Bc (λw f hM=>AJ rfl (Ac rfl Bh hM.k0 rfl)) (λw f hM=>⟨(⟨16,t.ln,t.co,[],0,(nd8.one)⟩,(some ⟨b10,0,none⟩),1),f,rfl,(by simp[Bn,SP.need,Az,h1,h6,h9,h13,h14,h15,Ee,h17,hn15,hnd8]),hM.exm,⟨hM.f0,tQ⟩⟩)));exact go A5 4 [1] (y<|λ_=>Be rfl rfl (eC AO rfl rfl) (λw2 f2 he hE=>⟨rfl,_,f2,rfl,(by rw[XK (.inl rfl) hne]),hE⟩) λhn16=>absurd (by have h9:=beq_iff_eq.1 hn16;omega) hne);refine go A5 6 [] (λ_=>Ba 166 rfl rfl (λh19=>?_) (λh19=>?_));obtain rfl:=beq_iff_eq.1 h19;refine go A5 2 [] (λ_=>?_);rcases Fo.single l with ⟨p,pk,rfl⟩|hne
 refine B5 (λw f=>A9 w f la 0 (.cons p pk .nil)) (λw f hM=>Bx.at hM.f0) A9.mono<|C6 (α:=Nat×Nat×Option Addr×Nat) (λx=>la=some ⟨x.1,x.2.1,none⟩) (λx=>[⟨x.1,x.2.1+0*6,J6 p x.2.2.1 pk.len x.2.2.2⟩]) (λx=>[λw f=>Bx w f pk x.2.2.1 x.2.2.2,λw f=>A9 w f la 1 .nil]) (λw f hM=>let ⟨b,off,ka,kc,h1,h2,h3,h4⟩:=A9.head hM.f0;⟨(b,off,ka,kc),h1,(oE h2),A2.mem ⟨h3,h4,tQ⟩⟩) (λx=>Af.mem ⟨Bx.mono,A9.mono,tQ⟩) ?_;rintro⟨eb0,eo0,k0a,k0c⟩ rfl;refine go A5 4 [1] (y<|λ_=>Be rfl rfl (eC AO rfl rfl) (λw2 f2 he hE=>⟨rfl,_,f2,rfl,(by simp[Fo.len] at he),hE⟩) λhn17=>go A5 20 [] (λ_=>Dp [1] Ap (rd [0,1,2,3,4] (.br 5 (.br 6 (.br 7 (.br 8 .fin .fin) .fin) .fin) .fin)) rfl kR<|AA A5 5 [0,100,0] (y<|And.intro (by simp only[Fo.len];omega)<|y2<|λ_=>Ag rfl ?_ Aj)));refine Kx rfl rfl (eC DC rfl rfl) (λw f hM=>ihx w f hM.vl hM.f4 p pk _ _ hall.1 hM.f0) (λ_=>⟨AK.mono,tQ⟩) (λe w2 f2 he hE=>⟨rfl,e,f2,rfl,(by simp[Bn,SP.need,Az,he,h1,h6,h9,h13,h14,h15,Ee,h17,h18,hn17]),hE⟩) ?_;rintro⟨nd9,and9,cnd9⟩ hnd9;dsimp only at hnd9 ⊢;refine go A5 1 [] (λ_=>Ax [1] rfl<|Ag rfl ?_ Aj);refine go A5 2 [] (λb11=>λ_=>Ax [2] rfl<|Ag rfl ?_ Aj);refine Dn 0 rfl rfl<|B5 (λw f=>AK w f (nd9.one) (some ⟨b11,0,none⟩) 1) (λw f hM=>Cj.toF (Cj.cons' hM.f0 (show Cj _ _ .nil [] from rfl)) hM.b0 (Nat.le_refl _)) AK.mono<|D4 rfl rfl (eC Bq rfl rfl) (λw f hM=>AE _ t _ _ _ _ _ _)<|go A5 1 [] (λ_=>Bj [1] Fy rfl (λ_ h=>.tail _ h)<|Ag rfl ?_ Aj);exact go A5 2 [0] (y<|λ_=>Bj [1] Fy rfl (λ_ h=>.tail _ h)<|B4<|go A5 4 [] (λ_=>Bc (λw f hM=>AJ rfl (Ac rfl Bh hM.k0 rfl)) (λw f hM=>⟨(⟨17,t.ln,t.co,[],0,(nd9.one)⟩,(some ⟨b11,0,none⟩),1),f,rfl,(by simp[Bn,SP.need,Az,h1,h6,h9,h13,h14,h15,Ee,h17,h18,hn17,hnd9]),hM.exm,⟨hM.f0,tQ⟩⟩)));exact go A5 4 [1] (y<|λ_=>Be rfl rfl (eC AO rfl rfl) (λw2 f2 he hE=>⟨rfl,_,f2,rfl,(by rw[XK (.inr rfl) hne]),hE⟩) λhn18=>absurd (by have h9:=beq_iff_eq.1 hn18;omega) hne);exact go A5 7 [1] (y<|λ_=>jN rfl rfl (eC TV rfl rfl) (pe:=λe=>e=(t.ln,t.co)) (T:=42) (λw f hM=>(Jh w t _).mono (λ_ _ h=>h.elim) λ_ w2 ⟨h1,h2⟩=>⟨_,f,h1,rfl,CR.of_ext h2 hM.vl⟩) (λe w2 f2 he hE=>by subst he;exact⟨rfl,_,f2,rfl,(by simp[Bn,SP.need,Az,h1,h6,h9,h13,h14,h15,Ee,h17,h18,h19]),hE⟩))
def xB:Eh:=⟨[(82,0,0),(80,0,0),(80,1,1),(80,2,3),(80,3,4),(82,1,5)],[(44,82,6)],[],[],[(3,false,1),(26,true,2),(55,true,6),(82,true,6),(9,false,1),(44,false,1)],[(55,[.int .i64 0,.int .i64 0,.int .i64 0,.string ⟨#[]⟩,.int .i64 0,.slice none 0 0]),(82,[.int .i64 0,.int .i64 0,.int .i64 0,.int .i64 0,.string ⟨#[]⟩,.slice none 0 0])],[(55,[(0,1),(1,2),(3,1),(4,1),(5,1)])],[]⟩
theorem BY:xB.Ok prog:=⟨(And.intro Jb (And.intro Qe (And.intro VG (And.intro Wd (And.intro IU (And.intro IJ tQ)))))),(And.intro Gq tQ),tQ,tQ,(And.intro Dd (And.intro Db (And.intro Bh (And.intro Lr (And.intro GX (And.intro NJ tQ)))))),(And.intro GJ (And.intro P5 tQ)),(And.intro gR tQ),tQ⟩
theorem U7(w:World)(hG:Gl w)(tx:lU):BC prog 46 #[S fG,S ([32]++tx++[32])] w λv w'=>v=.bool (KF tx)∧AY w w':=Ie w hG _ _ dC
theorem Rz(n:Nat)(ih:∀n',n=n'+1→∀ (w:World) (f:Fq) (_:Vl w f) (_:D5 w f) (t:AM) (k:Fo) (a:Option Addr) (c:Nat),Hb n' t k→Bx w f k a c→BS prog 38 #[fV t a k.len c] w (ID (By (n'+1) t k) w f) (IK 42 (By (n'+1) t k) w f))(iha:∀n',n=n'+1→∀ (w:World) (f:Fq) (_:Vl w f) (_:D5 w f) (t:AM) (k:Fo) (a:Option Addr) (c:Nat),Hb n' t k→Bx w f k a c→BS prog 94 #[fV t a k.len c] w (ID (Gv (n'+1) (By (n'+1)) t k) w f) (IK 42 (Gv (n'+1) (By (n'+1)) t k) w f))(w:World)(f:Fq)(hv:Vl w f)(hJ:D5 w f)(t:AM)(k:Fo)(ka:Option Addr)(kc:Nat)(hp:Hb n t k)(hL:Bx w f k ka kc) :
  BS prog 38 #[fV t ka k.len kc] w (ID (By (n+1) t k) w f) (IK 42 (By (n+1) t k) w f):=by
 refine Nl (X:=X0 w f) (H:=[]) (R:=[]) (B:=[]) (Fs:=[λw f=>Bx w f k ka kc,λw f=>D5 w f]) (f:=f) func38 rfl rfl rfl (C8 hv ⟨hL,hJ,tQ⟩ ⟨Bx.mono,D5.mono,tQ⟩)<|go BY 21 [1] (λb1=>λb2=>y<|λ_=>Ba 8 rfl rfl (λh1=>?_) (λh1=>?_));exact go BY 16 [1,1,0] (y<|y<|y<|λ_=>Bc (λw f hM=>AJ rfl (Ac rfl Bh hM.k0 rfl)) (λw f hM=>⟨(⟨1,t.ln,t.co,[],t.nm,.nil⟩,none,0),f,rfl,(by unfold By;simp[SP.need,Az,h1]),hM.exm,⟨⟨Nat.zero_le _,.inl rfl⟩,tQ⟩⟩));refine go BY 7 [] (λ_=>Ba 17 rfl rfl (λh2=>?_) (λh2=>?_));exact go BY 7 [1,1] (y<|y<|λ_=>D4 rfl rfl (eC Bq rfl rfl) (λw f hM=>AE _ t _ _ _ _ _ _)<|go BY 6 [0] (y<|λ_=>Bc (λw f hM=>AJ rfl (Ac rfl Bh hM.k0 rfl)) (λw f hM=>⟨(⟨2,t.ln,t.co,t.tx,0,.nil⟩,none,0),f,rfl,(by unfold By;simp[SP.need,Az,h1,h2]),hM.exm,⟨⟨Nat.zero_le _,.inl rfl⟩,tQ⟩⟩)));refine go BY 7 [] (λ_=>Ba 24 rfl rfl (λh3=>?_) (λh3=>?_));exact go BY 7 [1,1] (y<|y<|λ_=>D4 rfl rfl (eC Bq rfl rfl) (λw f hM=>AE _ t _ _ _ _ _ _)<|go BY 6 [0] (y<|λ_=>Bc (λw f hM=>AJ rfl (Ac rfl Bh hM.k0 rfl)) (λw f hM=>⟨(⟨3,t.ln,t.co,t.tx,0,.nil⟩,none,0),f,rfl,(by unfold By;simp[SP.need,Az,h1,h2,h3]),hM.exm,⟨⟨Nat.zero_le _,.inl rfl⟩,tQ⟩⟩)));refine go BY 7 [] (λ_=>Ba 31 rfl rfl (λh4=>?_) (λh4=>?_));exact go BY 7 [1,1] (y<|y<|λ_=>D4 rfl rfl (eC Bq rfl rfl) (λw f hM=>AE _ t _ _ _ _ _ _)<|go BY 6 [0] (y<|λ_=>Bc (λw f hM=>AJ rfl (Ac rfl Bh hM.k0 rfl)) (λw f hM=>⟨(⟨6,t.ln,t.co,t.tx,0,.nil⟩,none,0),f,rfl,(by unfold By;simp[SP.need,Az,h1,h2,h3,h4]),hM.exm,⟨⟨Nat.zero_le _,.inl rfl⟩,tQ⟩⟩)));refine go BY 7 [] (λ_=>Ba 38 rfl rfl (λh5=>?_) (λh5=>?_));refine go BY 2 [] (λ_=>Dp [0,1] Ap (.rd 0 (.rd 1 (.br 2 (.br 3 .fin .fin) .fin))) rfl kR<|AA BY 2 [1,1] (y<|y<|λ_=>Ag rfl ?_ Aj));refine D4 rfl rfl (eC Om rfl rfl) (λw f hM=>Ff _ (D5.gl hM.f1) t _ hp.1.1 hp.1.2)<|go BY 1 [] (λ_=>Ax [0,1] rfl<|Ag rfl ?_ Aj);exact Be rfl rfl (eC AO rfl rfl) (λw2 f2 he hE=>⟨rfl,_,f2,rfl,(by unfold By;simp[SP.need,Az,he,h1,h2,h3,h4,h5]),hE⟩) λhn1=>go BY 1 [] (λ_=>Ax [0,1] rfl<|B4<|go BY 7 [1,1] (y<|y<|λ_=>D4 rfl rfl (eC Bq rfl rfl) (λw f hM=>AE _ t _ _ _ _ _ _)<|go BY 6 [0] (y<|λ_=>Bc (λw f hM=>AJ rfl (Ac rfl Bh hM.k0 rfl)) (λw f hM=>⟨(⟨5,t.ln,t.co,t.tx,0,.nil⟩,none,0),f,rfl,(by unfold By;simp[SP.need,Az,h1,h2,h3,h4,h5,hn1]),hM.exm,⟨⟨Nat.zero_le _,.inl rfl⟩,tQ⟩⟩))));refine go BY 13 [1] (y<|λ_=>Ba 52 rfl rfl (λh6=>?_) (λh6=>?_));refine go BY 2 [] (λ_=>?_);obtain rfl:k=.nil:=Fo.len0 (by have h9:((k.len:Int)==0)=true:=h6;have:=beq_iff_eq.1 h9;omega);exact go BY 2 [1] (y<|λ_=>D4 rfl rfl (eC Bq rfl rfl) (λw f hM=>AE _ t _ _ _ _ _ _)<|go BY 5 [0] (y<|λ_=>Bc (λw f hM=>AJ rfl (Ac rfl Bh hM.k0 rfl)) (λw f hM=>⟨(⟨4,t.ln,t.co,[],0,.nil⟩,none,0),f,rfl,(by unfold By;simp[SP.need,Az,h1,h2,h3,h4,h5,h6]),hM.exm,⟨⟨Nat.zero_le _,.inl rfl⟩,tQ⟩⟩)));refine go BY 4 [] (λ_=>?_)
 obtain⟨h,hk,r,rfl⟩:=Fo.cases1 k (by have h9:((k.len:Int)==0)=false:=h6;have:=beq_eq_false_iff_ne.1 h9;omega);have hp0:=hp;obtain⟨hto,hko,hkl,hdp⟩:=hp;have hkl2:r.len+1≤100000:=hkl;obtain⟨n,rfl⟩:∃q,n=q+1:=by cases n with|zero=>exact absurd hdp (by simp[Fo.deep])|succ q=>exact⟨q,rfl⟩
 have htl:=hko.1.2;refine B5 (λw f=>Bx w f r (DA ka kc 6) (kc-1)) (λw f hM=>A9.rest hM.f0) Bx.mono<|B5 (λw f=>A9 w f ka 0 (.cons h hk r)) (λw f hM=>Bx.at hM.f1) A9.mono<|C6 (α:=Nat×Nat×Option Addr×Nat) (λx=>ka=some ⟨x.1,x.2.1,none⟩) (λx=>[⟨x.1,x.2.1+0*6,J6 h x.2.2.1 hk.len x.2.2.2⟩]) (λx=>[λw f=>Bx w f hk x.2.2.1 x.2.2.2,λw f=>A9 w f ka 1 r]) (λw f hM=>let ⟨b,off,ka,kc,h1,h2,h3,h4⟩:=A9.head hM.f0;⟨(b,off,ka,kc),h1,(oE h2),A2.mem ⟨h3,h4,tQ⟩⟩) (λx=>Af.mem ⟨Bx.mono,A9.mono,tQ⟩) ?_;rintro⟨eb,eo,hka,hkc⟩ rfl;refine Dp [0,1] Ap (rd [0,1,2,3,4,5,6] (.br 7 (.br 8 (.rd 9 .fin) .fin) .fin)) rfl kR<|AA BY 6 [1,100,0,1] (y<|And.intro (by simp only[Fo.len];omega)<|y2<|y<|λ_=>Ik rfl rfl rfl (λw hK=>Hz rfl rfl rfl Gq)<|Ag rfl ?_ Aj);refine go BY 2 [] (λb3=>λ_=>Ax [1,2] rfl<|Ag rfl ?_ Aj);refine go BY 2 [0] (y<|λ_=>Ax [1,2] rfl<|AA BY 1 [] (λ_=>B4<|go BY 12 [0] (y<|λ_=>Ba 62 rfl rfl (λh7=>?_) (λh7=>?_))));refine go BY 2 [] (λ_=>Dp [0,1,2] Ap (rd [0,1,2] (.br 3 (.br 4 .fin .fin) .fin)) rfl kR<|AA BY 3 [2] (y<|λ_=>Ag rfl ?_ Aj));refine D4 rfl rfl (eC Jm rfl rfl) (λw f hM=>Dw _ _ _ _)<|go BY 1 [] (λ_=>Ax [0,1,2] rfl<|Ag rfl ?_ Aj);refine Be rfl rfl (eC AO rfl rfl) (λw2 f2 he hE=>⟨rfl,_,f2,rfl,(by unfold By;simp[SP.need,Az,he,h1,h2,h3,h4,h5,h6,h7]),hE⟩) λhn2=>go BY 1 [] (λ_=>Ax [0,1,2] rfl<|B4<|go BY 2 [] (λ_=>Dp [0,2] Ap (rd [0,1,2,3,4] (.br 5 (.br 6 (.br 7 .fin .fin) .fin) .fin)) rfl kR<|AA BY 5 [1,0] (y<|y<|λ_=>Ag rfl ?_ Aj)));refine Kx rfl rfl (eC D2 rfl rfl) (λw f hM=>Ca 38 DC (By (n+1)) (Hb n) (λw f hv hJ t k a c hd hT=>ih n rfl w f hv hJ t k a c hd hT) w f hM.vl hM.f5 r _ _ (D8 hp0).2 oM hM.f3) (λ_=>⟨AK.mono,tQ⟩) (λe w2 f2 he hE=>⟨rfl,e,f2,rfl,(by unfold By;simp[SP.need,Az,he,h1,h2,h3,h4,h5,h6,h7,hn2]),hE⟩) ?_;rintro⟨⟨nds1,xnds1⟩,ands1,cnds1⟩ hnds1;dsimp only at hnds1 ⊢;refine go BY 1 [] (λ_=>Ax [0,2] rfl<|Ag rfl ?_ Aj);refine D4 rfl rfl (eC Bq rfl rfl) (λw f hM=>AE _ t _ _ _ _ _ _)<|go BY 1 [] (λ_=>Ax [0,2] rfl<|Ag rfl ?_ Aj);exact go BY 2 [1] (y<|λ_=>Ax [0,2] rfl<|B4<|go BY 4 [] (λ_=>Bc (λw f hM=>AJ rfl (Ac rfl Bh hM.k1 rfl)) (λw f hM=>⟨(⟨6,t.ln,t.co,h.tx,0,nds1⟩,ands1,cnds1),f,rfl,(by unfold By;simp[SP.need,Az,h1,h2,h3,h4,h5,h6,h7,hn2,hnds1]),hM.exm,⟨hM.f0,tQ⟩⟩)));refine go BY 4 [0] (y<|λ_=>D4 rfl rfl (eC YY rfl rfl) (λw f hM=>G2 _ h _)<|go BY 1 [] (λ_=>Ba 82 rfl rfl (λh8=>?_) (λh8=>?_)));refine go BY 5 [0] (y<|And.intro (by simp <;> omega)<|And.intro (by simp <;> omega)<|λ_=>D4 rfl rfl (eC QT rfl rfl) (λw f hM=>U7 _ (D5.gl hM.f5) h.tx)<|go BY 4 [] (λ_=>Ba 79 rfl rfl (λh9=>?_) (λh9=>?_)));refine go BY 8 [2,0] (y<|y<|λ_=>?_);refine Kx rfl rfl (eC mO rfl rfl) (λw f hM=>Wx n (ih n rfl) (iha n rfl) w f hM.vl hM.f5 t (.cons h hk r) _ _ h.tx r _ _ (D8 hp0).2 oM hM.f3) (λ_=>⟨AK.mono,tQ⟩) (λe w2 f2 he hE=>⟨rfl,e,f2,rfl,(by unfold By;simp[SP.need,Az,he,h1,h2,h3,h4,h5,h6,h7,h8,h9]),hE⟩) ?_;rintro⟨nd1,and1,cnd1⟩ hnd1
 dsimp only at hnd1 ⊢;exact go BY 6 [1] (y<|λ_=>Bc (λw f hM=>AJ rfl (Ac rfl Bh hM.k1 rfl)) (λw f hM=>⟨(nd1,and1,cnd1),f,rfl,(by unfold By;simp[SP.need,Az,h1,h2,h3,h4,h5,h6,h7,h8,h9,hnd1]),hM.exm,⟨hM.f0,tQ⟩⟩));refine go BY 5 [] (λ_=>Dp [0,1,2] Ap (rd [0,1,2] (.br 3 (.br 4 .fin .fin) .fin)) rfl kR<|AA BY 3 [2] (y<|λ_=>Ag rfl ?_ Aj));refine D4 rfl rfl (eC Jm rfl rfl) (λw f hM=>Dw _ _ _ _)<|go BY 1 [] (λ_=>Ax [0,1,2] rfl<|Ag rfl ?_ Aj);refine Be rfl rfl (eC AO rfl rfl) (λw2 f2 he hE=>⟨rfl,_,f2,rfl,(by unfold By;simp[SP.need,Az,he,h1,h2,h3,h4,h5,h6,h7,h8,h9]),hE⟩) λhn3=>go BY 1 [] (λ_=>Ax [0,1,2] rfl<|B4<|go BY 2 [] (λ_=>Dp [0,2] Ap (rd [0,1,2] (.br 3 (.br 4 (.br 5 .fin .fin) .fin) .fin)) rfl kR<|AA BY 3 [1,1] (y<|y<|λ_=>Ag rfl ?_ Aj)));refine Kx rfl rfl (eC D2 rfl rfl) (λw f hM=>Ca 38 DC (By (n+1)) (Hb n) (λw f hv hJ t k a c hd hT=>ih n rfl w f hv hJ t k a c hd hT) w f hM.vl hM.f5 (.cons h hk r) _ _ (D8 hp0) hkl hM.f4) (λ_=>⟨AK.mono,tQ⟩) (λe w2 f2 he hE=>⟨rfl,e,f2,rfl,(by unfold By;simp[SP.need,Az,he,h1,h2,h3,h4,h5,h6,h7,h8,h9,hn3]),hE⟩) ?_;rintro⟨⟨nds2,xnds2⟩,ands2,cnds2⟩ hnds2;dsimp only at hnds2 ⊢;refine go BY 1 [] (λ_=>Ax [0,2] rfl<|Ag rfl ?_ Aj);refine D4 rfl rfl (eC Bq rfl rfl) (λw f hM=>AE _ t _ _ _ _ _ _)<|go BY 1 [] (λ_=>Ax [0,2] rfl<|Ag rfl ?_ Aj);exact go BY 2 [1] (y<|λ_=>Ax [0,2] rfl<|B4<|go BY 2 [] (λ_=>Bc (λw f hM=>AJ rfl (Ac rfl Bh hM.k1 rfl)) (λw f hM=>⟨(⟨8,t.ln,t.co,[],0,nds2⟩,ands2,cnds2),f,rfl,(by unfold By;simp[SP.need,Az,h1,h2,h3,h4,h5,h6,h7,h8,h9,hn3,hnds2]),hM.exm,⟨hM.f0,tQ⟩⟩)));refine go BY 15 [] (λ_=>Dp [0,1,2] Ap (rd [0,1,2] (.br 3 (.br 4 .fin .fin) .fin)) rfl kR<|AA BY 3 [2] (y<|λ_=>Ag rfl ?_ Aj));refine D4 rfl rfl (eC Jm rfl rfl) (λw f hM=>Dw _ _ _ _)<|go BY 1 [] (λ_=>Ax [0,1,2] rfl<|Ag rfl ?_ Aj);refine Be rfl rfl (eC AO rfl rfl) (λw2 f2 he hE=>⟨rfl,_,f2,rfl,(by unfold By;simp[SP.need,Az,he,h1,h2,h3,h4,h5,h6,h7,h8]),hE⟩) λhn4=>go BY 1 [] (λ_=>Ax [0,1,2] rfl<|B4<|go BY 2 [] (λ_=>Dp [0,2] Ap (rd [0,1,2] (.br 3 (.br 4 (.br 5 .fin .fin) .fin) .fin)) rfl kR<|AA BY 3 [1,1] (y<|y<|λ_=>Ag rfl ?_ Aj)));refine Kx rfl rfl (eC D2 rfl rfl) (λw f hM=>Ca 38 DC (By (n+1)) (Hb n) (λw f hv hJ t k a c hd hT=>ih n rfl w f hv hJ t k a c hd hT) w f hM.vl hM.f5 (.cons h hk r) _ _ (D8 hp0) hkl hM.f4) (λ_=>⟨AK.mono,tQ⟩) (λe w2 f2 he hE=>⟨rfl,e,f2,rfl,(by unfold By;simp[SP.need,Az,he,h1,h2,h3,h4,h5,h6,h7,h8,hn4]),hE⟩) ?_;rintro⟨⟨nds3,xnds3⟩,ands3,cnds3⟩ hnds3;dsimp only at hnds3 ⊢;refine go BY 1 [] (λ_=>Ax [0,2] rfl<|Ag rfl ?_ Aj);refine D4 rfl rfl (eC Bq rfl rfl) (λw f hM=>AE _ t _ _ _ _ _ _)<|go BY 1 [] (λ_=>Ax [0,2] rfl<|Ag rfl ?_ Aj);exact go BY 2 [1] (y<|λ_=>Ax [0,2] rfl<|B4<|go BY 2 [] (λ_=>Bc (λw f hM=>AJ rfl (Ac rfl Bh hM.k1 rfl)) (λw f hM=>⟨(⟨8,t.ln,t.co,[],0,nds3⟩,ands3,cnds3),f,rfl,(by unfold By;simp[SP.need,Az,h1,h2,h3,h4,h5,h6,h7,h8,hn4,hnds3]),hM.exm,⟨hM.f0,tQ⟩⟩)))
end Go.Proofs.YtegedalegfadgaaGreatDoor
namespace Go.SP
open Go.SW Go.RowKit
def M7(l:List lU):List (lU×Value):=l.map λk=>(k,.bool true)
theorem We(n:lU):∀l:List lU,FL (M7 l) n=if l.contains n then some (.bool true) else none
 | []=>rfl
 |k::l=>by
   have:=We n l;simp only[M7,List.map,FL,List.contains_cons] at this ⊢
   by_cases hk:n=k
   · subst hk;simp
   · have e:(n==k)=false:=by simpa using hk
     rw[e,this];simp
theorem uT(n:lU)(l:List lU):(FL (M7 l) n).getD (.bool false)=.bool (l.contains n):=by rw[We];cases l.contains n <;> rfl
theorem uM{n:lU}{l:List lU}(h:l.contains n=false):FL (M7 l) n=none:=by rw[We,h];rfl
theorem lO:∀{l:List lU},l.Nodup→Lm (M7 l)
 | [],_=>trivial
 |k::l,h=>⟨by
     have h':=List.nodup_cons.1 h;show FL (M7 l) k=none;rw[We,if_neg];simpa using h'.1,lO (List.nodup_cons.1 h).2⟩
abbrev K9(m:Nat)(l:List lU):World→Fq→Prop:=λw _=>Cm CG w m (M7 l)
variable {m:Nat}
theorem J9{l:List lU}:GH (λb=>b=m) (K9 m l):=λ_ _ _ _ h _ hb=>h.heap (hb m rfl)
section
variable{s s0 s2:List lU}{op ln co nm:Int}{tx:lU}{k k0 r:Nd}
theorem Vp(h:(op==22)=false):BR s (.cons op ln co tx nm k .nil)=BR s k:=by
 simp only[BR,h];show (match BR s k with|none=>none|some s2=>some s2)=_
 cases BR s k <;> rfl
theorem SC(h:(op==22)=true)(h2:s.contains tx=false):BR s (.cons op ln co tx nm k .nil)=BR (tx::s) k:=by
 simp only[BR,h,h2];show (match BR (tx::s) k with|none=>none|some s2=>some s2)=_
 cases BR (tx::s) k <;> rfl
theorem YR(h:(op==22)=true)(h2:s.contains tx=true):BR s (.cons op ln co tx nm k .nil)=none:=by
 simp only[BR,h,h2];rfl
theorem P7(hk:BR s0 k0=BR s (.cons op ln co tx nm k r))(h:(BR s (.cons op ln co tx nm k .nil)).isSome=true)(hs:∀s',BR s (.cons op ln co tx nm k .nil)=some s'→s'=s2):BR s0 k0=BR s2 r:=by
 obtain⟨s',h'⟩:=Option.isSome_iff_exists.1 h;obtain rfl:=hs s' h';rw[hk,O0,h']
theorem Ry(hk:BR s0 k0=BR s (.cons op ln co tx nm k r))(h:(BR s (.cons op ln co tx nm k .nil)).isSome=false):BR s0 k0=none:=by
 rw[hk,O0]
 cases h':BR s (.cons op ln co tx nm k .nil) with
 |none=>rfl
 |some _=>rw[h'] at h;cases h
end
def fN(P:Program)(fid:FuncId)(n:Nat):Prop:=∀(w:World)(f:Fq)(_:Vl w f)(m:Nat)(seen:List lU),K9 m seen w f→f m=0→seen.Nodup→∀(op ln co nm:Int)(tx:lU)(kids:Nd)(na:Option Addr)(nc:Nat),kids.size<n→kids.len≤100000∧kids.ok→AK w f kids na nc →
 BC P fid #[.agg #[.int .i64 op,.int .i64 ln,.int .i64 co,S tx,.int .i64 nm,.slice na kids.len nc],.map (some m)] w (OL (α:=List lU) (λ_=>.bool (BR seen (.cons op ln co tx nm kids .nil)).isSome) (λs=>(∀s',BR seen (.cons op ln co tx nm kids .nil)=some s'→s'=s)∧s.Nodup) (λb=>b=m) (λ_ b=>b=m) (λs=>K9 m s) (λ_=>[]) w f)
theorem Fo.all_imp{p q:AM→Fo→Prop}(h:∀t k,p t k→q t k):∀{fo:Fo},fo.all p→fo.all q
 |.nil,_=>trivial
 |.cons _ _ _,hp=>⟨h _ _ hp.1,Fo.all_imp h hp.2⟩
theorem bT:∀{n:Nat}{t:AM}{k:Fo},Hb n t k→k.all (Hb n)
 |0,_,.nil,_=>trivial
 |0,_,.cons _ _ _,h=>absurd h.2.2.2 (by simp[Fo.deep])
 |_+1,_,_,h=>Fo.all_imp (λ_ _ h=>RF h) (D8 h)
theorem VV{n:Nat}{ex:AM→Fo→R N}{t:AM}{k:Fo}(h:k.len≠2):Gv n ex t k=.error (t.ln,t.co):=by
 unfold Gv
 split
 · simp[Fo.len] at h
 · rfl
end Go.SP
namespace Go.SP
open Go.SW Go.RowKit
theorem Nd.getN(i:Nat)(x:Nd)(h:i<x.len):∃q:N,x.drop i=q.cons (x.drop (i+1)) :=
 let ⟨op,ln,co,tx,nm,k,e⟩:=Nd.drop_lt i x h
 ⟨⟨op,ln,co,tx,nm,k⟩,e⟩
variable {f:Fq}{i:Nat}{a:Option Addr}{w:World}
theorem A0.elem{q:N}:∀{i:Nat}{k:Nd}{j:Nat},A0 w f a j k→k.drop i=q.cons (k.drop (i+1))→∃b off ka kc,a=some ⟨b,off,none⟩∧Cs w f b (off+(j+i)*6) (FI q.op q.ln q.co q.tx q.nm ka q.kids.len kc)∧AK w f q.kids ka kc
 |0,k,j,h,e=>by
   have e:k=q.cons (k.drop 1):=e;rw[e] at h;obtain⟨b,off,ka,kc,h1,h2,h3,-⟩:=A0.head h;exact⟨b,off,ka,kc,h1,h2,h3⟩
 |_+1,.nil,_,_,e=>by cases e
 |i+1,.cons _ _ _ _ _ _ r,j,h,e=>by
   obtain⟨_,_,_,_,_,_,_,h4⟩:=A0.head h;have:=A0.elem (i:=i) (k:=r) h4 e;rwa[show j+1+i=j+(i+1) by omega] at this
theorem AK.elem{q:N}{c:Nat}{k:Nd}(h:AK w f k a c)(e:k.drop i=q.cons (k.drop (i+1))):∃b off ka kc,a=some ⟨b,off,none⟩∧Cs w f b (off+i*6) (FI q.op q.ln q.co q.tx q.nm ka q.kids.len kc)∧AK w f q.kids ka kc:=by
 have:=A0.elem (AK.at h) e;rwa[Nat.zero_add] at this
end Go.SP
namespace Go.SP
theorem Fo.nc:∀k:Fo,k=.nil∨∃h hk r,k=.cons h hk r
 |.nil=>.inl rfl
 |.cons h hk r=>.inr ⟨h,hk,r,rfl⟩
theorem Fo.most:∀l:Fo,(∃a ak b bk c ck r,l=.cons a ak (.cons b bk (.cons c ck r)))∨l.len<3
 |.nil=>.inr (by simp[Fo.len])
 |.cons _ _ .nil=>.inr (by simp[Fo.len])
 |.cons _ _ (.cons _ _ .nil)=>.inr (by simp[Fo.len])
 |.cons a ak (.cons b bk (.cons c ck r))=>.inl ⟨a,ak,b,bk,c,ck,r,rfl⟩
section
variable{n:Nat}{t h:AM}{hk l:Fo}{b:Bool}{X:R N}
theorem Is(hX:X=.error (t.ln,t.co)):SP.need t b X=.error (t.ln,t.co):=by subst hX;cases b <;> rfl
theorem aZ(hw:h.tx=[100,97,116,97])(hl:l.len<3):CA n t (.cons h hk l)=.error (t.ln,t.co):=by
 unfold CA;refine Is ?_;rw[if_pos (by rw[hw];decide)]
 split
 · simp[Fo.len] at hl;omega
 · rfl
theorem bA(hw:h.tx=[114,111,111,116])(hl:l.len≠3):CA n t (.cons h hk l)=.error (t.ln,t.co):=by
 unfold CA;refine Is ?_;rw[if_neg (by rw[hw];decide),if_pos (by rw[hw];decide)]
 split
 · simp[Fo.len] at hl
 · rfl
theorem mD(hw:h.tx=[100,101,102])(hl:l.len≠2):CA n t (.cons h hk l)=.error (t.ln,t.co):=by
 unfold CA;refine Is ?_;rw[if_neg (by rw[hw];decide),if_neg (by rw[hw];decide),if_pos (by rw[hw];decide)]
 split
 · simp[Fo.len] at hl
 · rfl
theorem kW(hw:h.tx=[114,101,99])(hl:l.len≠2):CA n t (.cons h hk l)=.error (t.ln,t.co):=by
 unfold CA;refine Is ?_;rw[if_neg (by rw[hw];decide),if_neg (by rw[hw];decide),if_neg (by rw[hw];decide),if_pos (by rw[hw];decide)]
 split
 · simp[Fo.len] at hl
 · rfl
theorem nY(hw:h.tx=[100,111])(hl:l.len≠1):CA n t (.cons h hk l)=.error (t.ln,t.co):=by
 unfold CA;refine Is ?_;rw[if_neg (by rw[hw];decide),if_neg (by rw[hw];decide),if_neg (by rw[hw];decide),if_neg (by rw[hw];decide),if_pos (by rw[hw];decide)]
 split
 · simp[Fo.len] at hl
 · rfl
theorem TN(h1:(h.tx==[100,97,116,97])=false)(h2:(h.tx==[114,111,111,116])=false)(h3:(h.tx==[100,101,102])=false)(h4:(h.tx==[114,101,99])=false)(h5:(h.tx==[100,111])=false):CA n t (.cons h hk l)=.error (t.ln,t.co):=by
 unfold CA;refine Is ?_;simp only[h1,h2,h3,h4,h5];rfl
end
end Go.SP
namespace Go.SP
open Go.SW Go.RowKit
variable {σ:Br}{f:Fq}{i o off:Nat}{lo x:Operand}{P:Program}{T e ty:TypeId}{w:World}
theorem A9.toF{b c:Nat}{k:Fo}(h:A9 w f (some ⟨b,o,none⟩) i k)(hc:k.len≤c):Bx w f k (some ⟨b,o+i*6,none⟩) c:=⟨hc,h.imp id λ⟨_,_,h1,h2⟩=>⟨b,o+i*6,rfl,by cases h1;exact h2⟩⟩
theorem Zc{k len b c:Nat}(m:Nat)(hl:len=m+2)(hx:ev σ x=some (.slice (some ⟨b,off,none⟩) len c))(hlo:ev σ lo=some (.int .i64 2))(hc:c≠2)(hs:Kg P T=some (e,k)):AS P σ (.slice T x (some lo) none none) ty w (.slice (some ⟨b,off+2*k,none⟩) m (c-2)) w:=by
 subst hl;exact Yi hx hlo hs hc
section
variable{bk q vk:Fo}{v:AM}{vs:Nd}
theorem eH(h:BL bk=match BL (.cons v vk q) with|none=>none|some x=>some (vs.app x))(hv:v.isTypeVar=true):BL bk=match BL q with|none=>none|some x=>some ((vs.app (Az v 31 v.tx .nil).one).app x):=by
 rw[h]
 cases hq:BL q with
 |none=>rw[Rk hq]
 |some x=>rw[U6 hv hq];simp only[Nd.app_assoc];rfl
theorem jZ(h:BL bk=match BL (.cons v vk q) with|none=>none|some x=>some (vs.app x))(hv:v.isTypeVar=false):BL bk=none:=by rw[h,U5 hv]
theorem YS:BL bk=match BL bk with|none=>none|some x=>some (Nd.nil.app x):=by cases BL bk <;> rfl
theorem jK(h:BL bk=match BL .nil with|none=>none|some x=>some (vs.app x)):BL bk=some vs:=by rw[h];show some (vs.app .nil)=_;rw[Nd.app_nil]
end
end Go.SP
namespace Go.Proofs.YtegedalegfadgaaGreatDoor
open Go.SW Go.SP Go.RowKit Go.Proofs.Tryz
def wG:Eh:=⟨[(55,0,0),(55,2,3),(55,4,5),(82,1,5)],[(34,55,6),(44,82,6)],[],[],[(3,false,1),(9,false,1),(34,false,1),(55,true,6),(82,true,6),(44,false,1)],[(55,[.int .i64 0,.int .i64 0,.int .i64 0,.string ⟨#[]⟩,.int .i64 0,.slice none 0 0])],[],[]⟩
theorem CJ:wG.Ok prog:=⟨(And.intro IM (And.intro GW (And.intro Gi (And.intro IJ tQ)))),(And.intro FF (And.intro Gq tQ)),tQ,tQ,(And.intro Dd (And.intro GX (And.intro EK (And.intro Bh (And.intro Lr (And.intro NJ tQ)))))),(And.intro GJ tQ),tQ,tQ⟩
theorem Wi(n:Nat)(ih:fN prog 118 n)(w:World)(f:Fq)(hv:Vl w f)(m:Nat)(seen:List lU)(hS:K9 m seen w f)(hf:f m=0)(hnd:seen.Nodup)(op ln co nm:Int)(tx:lU)(kids:Nd)(na:Option Addr)(nc:Nat)(hm:kids.size<n+1)(hok:kids.len≤100000∧kids.ok)(hN:AK w f kids na nc) :
  BC prog 118 #[.agg #[.int .i64 op,.int .i64 ln,.int .i64 co,S tx,.int .i64 nm,.slice na kids.len nc],.map (some m)] w (OL (α:=List lU) (λ_=>.bool (BR seen (.cons op ln co tx nm kids .nil)).isSome) (λs=>(∀s',BR seen (.cons op ln co tx nm kids .nil)=some s'→s'=s)∧s.Nodup) (λb=>b=m) (λ_ b=>b=m) (λs=>K9 m s) (λ_=>[]) w f):=by
 have hkl:=hok.1;refine Dl (X:=⟨λb=>b=m,λb=>b=m,K9 m seen,w,f⟩) (H:=[]) (R:=[]) (B:=[]) (Fs:=[λw f=>AK w f kids na nc]) (f:=f) func118 rfl rfl rfl (Z3 (M:=λb=>b=m) hv hS J9 (λb hb=>by subst hb;exact⟨Cm.lt hS,hf⟩) ⟨hN,tQ⟩ ⟨AK.mono,tQ⟩)<|go CJ 14 [0] (λb1=>y<|λ_=>Ba 9 rfl rfl (λh1=>?_) (λh1=>?_));refine go CJ 7 [0] (y<|λ_=>EU rfl rfl (λw f hM=>NZ (K:=CG) (a:=tx) rfl rfl VH Ii dB hM.res (lO hnd) (uT tx seen))<|go CJ 2 [] (λ_=>Ba 13 rfl rfl (λh2=>?_) (λh2=>?_)));refine go CJ 9 [] (λ_=>?_);have h9:=YR (ln:=ln) (co:=co) (nm:=nm) (k:=kids) h1 h2;exact Bc (DI rfl rfl) (λw f hM=>⟨seen,f,(by rw[h9];rfl),⟨(λs' h=>by rw[h9] at h;cases h <;> rfl),hnd⟩,hM.exm,(λb h=>.inl h),hM.res,tQ⟩);refine go CJ 7 [0] (y<|λ_=>aN (K:=CG) (a:=tx) (l:=M7 seen) (I':=K9 m (tx::seen)) rfl rfl rfl rfl VH Ii rfl (lO hnd) (uM h2) (λw f h=>h) (λw f w2 h hM hC hm=>hm) J9<|go CJ 12 [0] (y<|λ_=>?_));refine HK (α:=Nat×Nd×List lU) (λx=>x.2.1.len) (λx=>x.1+x.2.1.len=kids.len∧BR (tx::seen) kids=BR x.2.2 x.2.1∧x.2.2.Nodup∧x.2.1.ok∧x.2.1.size≤kids.size) (λx=>(E4 1 (.map (some m)) 18 (.slice na kids.len nc) 19 (.int .i64 (kids.len:Int)) 20 (.int .i64 (x.1:Int)))) (λx=>⟨λb=>b=m,λb=>b=m,K9 m x.2.2,w,f⟩) (λx=>[]) (λx=>[]) (λx=>[]) (λx=>[λw f=>A0 w f na x.1 x.2.1]) (0,kids,(tx::seen)) ⟨Nat.zero_add _,rfl,(List.nodup_cons.2 ⟨by simpa using h2,hnd⟩),hok.2,Nat.le_refl _⟩ lE (λw f hM=>hM.more (B':=[]) (F':=[λw f=>A0 w f na 0 kids]) nE (A2.mem ⟨AK.at hM.f0,tQ⟩) (Af.mem ⟨A0.mono,tQ⟩) |>.less (.cons _ sR) sR nE (mR [0])) ?_;rintro⟨i,r,s⟩ ⟨hi,hk,hsn,hro,hrs⟩;dsimp only at hi hk hsn hro hrs ⊢;refine go CJ 6 [] (λ_=>Ba 21 rfl rfl (λh3=>?_) (λh3=>?_));refine go CJ 6 [] (λ_=>?_);have hil:i<kids.len:=by have:=of_decide_eq_true h3;omega
 obtain⟨op2,ln2,co2,tx2,nm2,k2,r,rfl⟩:=Nd.cases1 r oM;have hi2:i+(r.len+1)=kids.len:=hi;refine C6 (α:=Nat×Nat×Option Addr×Nat) (λx=>na=some ⟨x.1,x.2.1,none⟩) (λx=>[⟨x.1,x.2.1+i*6,FI op2 ln2 co2 tx2 nm2 x.2.2.1 k2.len x.2.2.2⟩]) (λx=>[λw f=>AK w f k2 x.2.2.1 x.2.2.2,λw f=>A0 w f na (i+1) r]) (λw f hM=>let ⟨b,off,ka,kc,h1,h2,h3,h4⟩:=A0.head hM.f0;⟨(b,off,ka,kc),h1,(oE h2),A2.mem ⟨h3,h4,tQ⟩⟩) (λx=>Af.mem ⟨AK.mono,A0.mono,tQ⟩) ?_;rintro⟨eb,eo,ka,kc⟩ rfl;refine go CJ 11 [100,0,0,0] (And.intro oM<|y2<|λb2=>y<|y<|λ_=>cW (α:=List lU) (XX:=λ_ _=>False) rfl rfl (eC Qk rfl rfl) (λw f hM=>(ih w f hM.vl m s hM.res (hM.mi m rfl).2.1 hsn op2 ln2 co2 nm2 tx2 k2 ka kc (by have h9:(Nd.cons op2 ln2 co2 tx2 nm2 k2 r).size≤kids.size:=hrs;simp only[Nd.size] at h9;omega) ⟨hro.1,hro.2.1⟩ hM.f0).retP) (λ_=>J9) (λ_=>trivial) (λ_ _ _ _ _ h=>h.elim) ?_);rintro s2 ⟨hs2,hsn2⟩;refine go CJ 3 [] (λ_=>Ba 27 rfl rfl (λh4=>?_) (λh4=>?_));replace h4:=Gg h4;refine go CJ 9 [] (λ_=>fD<|go CJ 2 [] (λ_=>?_));have h9:=(SC (ln:=ln) (co:=co) (nm:=nm) (k:=kids) h1 h2).trans (Ry hk h4);exact Bc (DI rfl rfl) (λw f hM=>⟨s2,f,(by rw[h9];rfl),⟨(λs' h=>by rw[h9] at h;cases h <;> rfl),hsn2⟩,hM.exm,(λb h=>.inl h),hM.res,tQ⟩);replace h4:=Gs h4;exact go CJ 8 [] (And.intro ⟨oM,oM⟩<|λ_=>DM ((i+1,r,s2)) (show r.len<r.len+1 from Nat.lt_succ_self _) ⟨show i+1+r.len=_ by omega,P7 hk h4 hs2,hsn2,hro.2.2,show r.size≤kids.size by have h9:(Nd.cons op2 ln2 co2 tx2 nm2 k2 r).size≤kids.size:=hrs;simp only[Nd.size] at h9;omega⟩ lE (λw f hM=>⟨_,hM.less (.cons _ sR) sR nE (mR [1])⟩));refine go CJ 3 [] (λ_=>GR<|go CJ 8 [] (λ_=>?_));obtain rfl:r=.nil:=Nd.len0 (by have:=of_decide_eq_false h3;omega);have h9:=(SC (ln:=ln) (co:=co) (nm:=nm) (k:=kids) h1 h2).trans (hk.trans (show BR s .nil=some s from rfl));exact Bc (DI rfl rfl) (λw f hM=>⟨s,f,(by rw[h9];rfl),⟨(λs' h=>by rw[h9] at h;cases h <;> rfl),hsn⟩,hM.exm,(λb h=>.inl h),hM.res,tQ⟩);refine go CJ 13 [0] (y<|λ_=>?_);refine HK (α:=Nat×Nd×List lU) (λx=>x.2.1.len) (λx=>x.1+x.2.1.len=kids.len∧BR seen kids=BR x.2.2 x.2.1∧x.2.2.Nodup∧x.2.1.ok∧x.2.1.size≤kids.size) (λx=>(E4 1 (.map (some m)) 18 (.slice na kids.len nc) 19 (.int .i64 (kids.len:Int)) 20 (.int .i64 (x.1:Int)))) (λx=>⟨λb=>b=m,λb=>b=m,K9 m x.2.2,w,f⟩) (λx=>[]) (λx=>[]) (λx=>[]) (λx=>[λw f=>A0 w f na x.1 x.2.1]) (0,kids,seen) ⟨Nat.zero_add _,rfl,hnd,hok.2,Nat.le_refl _⟩ lE (λw f hM=>hM.more (B':=[]) (F':=[λw f=>A0 w f na 0 kids]) nE (A2.mem ⟨AK.at hM.f0,tQ⟩) (Af.mem ⟨A0.mono,tQ⟩) |>.less (.cons _ sR) sR nE (mR [0])) ?_;rintro⟨i,r,s⟩ ⟨hi,hk,hsn,hro,hrs⟩;dsimp only at hi hk hsn hro hrs ⊢;refine go CJ 6 [] (λ_=>Ba 21 rfl rfl (λh5=>?_) (λh5=>?_));refine go CJ 6 [] (λ_=>?_);have hil:i<kids.len:=by have:=of_decide_eq_true h5;omega
 obtain⟨op2,ln2,co2,tx2,nm2,k2,r,rfl⟩:=Nd.cases1 r oM;have hi2:i+(r.len+1)=kids.len:=hi;refine C6 (α:=Nat×Nat×Option Addr×Nat) (λx=>na=some ⟨x.1,x.2.1,none⟩) (λx=>[⟨x.1,x.2.1+i*6,FI op2 ln2 co2 tx2 nm2 x.2.2.1 k2.len x.2.2.2⟩]) (λx=>[λw f=>AK w f k2 x.2.2.1 x.2.2.2,λw f=>A0 w f na (i+1) r]) (λw f hM=>let ⟨b,off,ka,kc,h1,h2,h3,h4⟩:=A0.head hM.f0;⟨(b,off,ka,kc),h1,(oE h2),A2.mem ⟨h3,h4,tQ⟩⟩) (λx=>Af.mem ⟨AK.mono,A0.mono,tQ⟩) ?_;rintro⟨eb,eo,ka,kc⟩ rfl;refine go CJ 11 [100,0,0,0] (And.intro oM<|y2<|λb3=>y<|y<|λ_=>cW (α:=List lU) (XX:=λ_ _=>False) rfl rfl (eC Qk rfl rfl) (λw f hM=>(ih w f hM.vl m s hM.res (hM.mi m rfl).2.1 hsn op2 ln2 co2 nm2 tx2 k2 ka kc (by have h9:(Nd.cons op2 ln2 co2 tx2 nm2 k2 r).size≤kids.size:=hrs;simp only[Nd.size] at h9;omega) ⟨hro.1,hro.2.1⟩ hM.f0).retP) (λ_=>J9) (λ_=>trivial) (λ_ _ _ _ _ h=>h.elim) ?_);rintro s2 ⟨hs2,hsn2⟩;refine go CJ 3 [] (λ_=>Ba 27 rfl rfl (λh6=>?_) (λh6=>?_));replace h6:=Gg h6;refine go CJ 9 [] (λ_=>fD<|go CJ 2 [] (λ_=>?_));have h9:=(Vp (ln:=ln) (co:=co) (nm:=nm) (tx:=tx) (k:=kids) h1).trans (Ry hk h6);exact Bc (DI rfl rfl) (λw f hM=>⟨s2,f,(by rw[h9];rfl),⟨(λs' h=>by rw[h9] at h;cases h <;> rfl),hsn2⟩,hM.exm,(λb h=>.inl h),hM.res,tQ⟩);replace h6:=Gs h6;exact go CJ 8 [] (And.intro ⟨oM,oM⟩<|λ_=>DM ((i+1,r,s2)) (show r.len<r.len+1 from Nat.lt_succ_self _) ⟨show i+1+r.len=_ by omega,P7 hk h6 hs2,hsn2,hro.2.2,show r.size≤kids.size by have h9:(Nd.cons op2 ln2 co2 tx2 nm2 k2 r).size≤kids.size:=hrs;simp only[Nd.size] at h9;omega⟩ lE (λw f hM=>⟨_,hM.less (.cons _ sR) sR nE (mR [1])⟩));refine go CJ 3 [] (λ_=>GR<|go CJ 8 [] (λ_=>?_));obtain rfl:r=.nil:=Nd.len0 (by have:=of_decide_eq_false h5;omega);have h9:=(Vp (ln:=ln) (co:=co) (nm:=nm) (tx:=tx) (k:=kids) h1).trans (hk.trans (show BR s .nil=some s from rfl));exact Bc (DI rfl rfl) (λw f hM=>⟨s,f,(by rw[h9];rfl),⟨(λs' h=>by rw[h9] at h;cases h <;> rfl),hsn⟩,hM.exm,(λb h=>.inl h),hM.res,tQ⟩)
theorem OW:∀n,fN prog 118 n
 |0=>λw f hv m seen h1 h2 h3 op ln co nm tx kids na nc h=>by omega
 |n+1=>λw f hv m seen h1 h2 h3 op ln co nm tx kids na nc h4 h5 h6=>Wi n (OW n) w f hv m seen h1 h2 h3 op ln co nm tx kids na nc h4 h5 h6
theorem Wl(n:Nat)(ihx:∀ (w:World) (f:Fq) (_:Vl w f) (_:D5 w f) (t:AM) (k:Fo) (a:Option Addr) (c:Nat),Hb n t k→Bx w f k a c→BS prog 38 #[fV t a k.len c] w (ID (By (n+1) t k) w f) (IK 42 (By (n+1) t k) w f))(w:World)(f:Fq)(hv:Vl w f)(hJ:D5 w f)(t:AM)(k:Fo)(ka:Option Addr)(kc:Nat)(hp:Hb n t k)(hL:Bx w f k ka kc) :
  BS prog 94 #[fV t ka k.len kc] w (ID (Gv (n+1) (By (n+1)) t k) w f) (IK 42 (Gv (n+1) (By (n+1)) t k) w f):=by
 refine Nl (X:=X0 w f) (H:=[]) (R:=[]) (B:=[]) (Fs:=[λw f=>Bx w f k ka kc,λw f=>D5 w f]) (f:=f) func94 rfl rfl rfl (C8 hv ⟨hL,hJ,tQ⟩ ⟨Bx.mono,D5.mono,tQ⟩)<|go CJ 7 [] (λb1=>λb2=>λ_=>?_);have hall:=bT hp;rcases Fo.two k with ⟨p,pk,b,bk,rfl⟩|hne
 refine B5 (λw f=>A9 w f ka 0 (.cons p pk (.cons b bk .nil))) (λw f hM=>Bx.at hM.f0) A9.mono<|C6 (α:=Nat×Nat×Option Addr×Nat) (λx=>ka=some ⟨x.1,x.2.1,none⟩) (λx=>[⟨x.1,x.2.1+0*6,J6 p x.2.2.1 pk.len x.2.2.2⟩]) (λx=>[λw f=>Bx w f pk x.2.2.1 x.2.2.2,λw f=>A9 w f ka 1 (.cons b bk .nil)]) (λw f hM=>let ⟨b,off,ka,kc,h1,h2,h3,h4⟩:=A9.head hM.f0;⟨(b,off,ka,kc),h1,(oE h2),A2.mem ⟨h3,h4,tQ⟩⟩) (λx=>Af.mem ⟨Bx.mono,A9.mono,tQ⟩) ?_;rintro⟨eb0,eo0,k0a,k0c⟩ rfl;refine C6 (α:=Nat×Nat×Option Addr×Nat) (λx=>(some (⟨eb0,eo0,none⟩:Addr))=some ⟨x.1,x.2.1,none⟩) (λx=>[⟨x.1,x.2.1+1*6,J6 b x.2.2.1 bk.len x.2.2.2⟩]) (λx=>[λw f=>Bx w f bk x.2.2.1 x.2.2.2,λw f=>A9 w f (some (⟨eb0,eo0,none⟩:Addr)) 2 .nil]) (λw f hM=>let ⟨b,off,ka,kc,h1,h2,h3,h4⟩:=A9.head hM.f1;⟨(b,off,ka,kc),h1,(oE h2),A2.mem ⟨h3,h4,tQ⟩⟩) (λx=>Af.mem ⟨Bx.mono,A9.mono,tQ⟩) ?_;rintro⟨eb1,eo1,k1a,k1c⟩ h44;obtain⟨rfl,rfl⟩:eb0=eb1∧eo0=eo1:=by cases h44;exact⟨rfl,rfl⟩
 refine Dp [0,1] Ap (.rd 0 (.rd 1 (.br 2 (rd [3,4,5,6,7,8] (.br 9 .fin .fin)) .fin))) rfl kR<|AA CJ 2 [1,1] (y<|y<|λ_=>Ag rfl ?_ Aj);refine D4 rfl rfl (eC H8 rfl rfl) (λw f hM=>C3 _ t _)<|go CJ 1 [] (λ_=>Ax [0,1] rfl<|AA CJ 1 [] (λ_=>K3 7 rfl (λh1=>?_) (λh1=>?_)));refine AA CJ 5 [1] (y<|λ_=>Ag rfl ?_ Aj);refine Be rfl rfl (eC AO rfl rfl) (λw2 f2 he hE=>⟨rfl,_,f2,rfl,(by simp[Fo.len] at he),hE⟩) λhn1=>go CJ 1 [] (λ_=>Ax [0,1] rfl<|B4<|go CJ 7 [1,101,0] (y<|And.intro (by simp only[Fo.len];omega)<|y2<|λ_=>?_));refine Kx rfl rfl (eC PO rfl rfl) (λw f hM=>Pw n w f hM.vl hM.f6 p pk _ _ hall.1 hM.f2) (λ_=>⟨AK.mono,tQ⟩) (λe w2 f2 he hE=>⟨rfl,e,f2,rfl,(by simp[Gv,SP.need,Az,he,h1,hn1]),hE⟩) ?_;rintro⟨nd1,and1,cnd1⟩ hnd1;dsimp only at hnd1 ⊢;refine go CJ 5 [0] (λb3=>y<|λ_=>Dp [0,1,2] Ap (rd [0,1,2,3,4] (.br 5 (.br 6 (.br 7 .fin .fin) .fin) .fin)) rfl kR<|AA CJ 5 [2,101,0,0] (y<|And.intro (by simp only[Fo.len];omega)<|y2<|y<|λ_=>Ag rfl ?_ Aj));refine rY (K:=CG) rfl rfl λm=>go CJ 1 [] (λ_=>Ax [0,1,2] rfl<|Ag rfl ?_ Aj);refine cW (α:=List lU) (val:=λ_=>.bool (BR [] nd1.one).isSome) (q:=λ_=>True) (MI':=λ_ b=>b=m) (I':=λs=>K9 m s) (F':=λ_=>[]) (XX:=λ_ _=>False) rfl rfl (eC Qk rfl rfl) (λw f hM=>((OW (nd1.kids.size+1) w f hM.vl m [] hM.res.2 (hM.mi m (.inr rfl)).2.1 List.nodup_nil nd1.op nd1.ln nd1.co nd1.nm nd1.tx nd1.kids and1 cnd1 (Nat.lt_succ_self _) (Z2 n p pk nd1 hall.1 hnd1) hM.f0).mono λv w2 ⟨x,f2,h1,h2,h3,h4,h5,h6⟩=>⟨x,f2,h1,tQ,h3.mono (λb hb=>.inr hb),(λb hb=>(h4 b hb).imp .inr id),h5,h6⟩).retP) (λ_=>J9) (λ_=>trivial) (λ_ _ _ _ _ h=>h.elim) ?_;rintro s1 -;refine go CJ 1 [] (λ_=>Ax [0,1,2] rfl<|Ag rfl ?_ Aj);refine Be rfl rfl (eC AO rfl rfl) (λw2 f2 he hE=>⟨rfl,_,f2,rfl,(by simp[Gv,SP.need,Az,he,h1,hn1,hnd1]),hE⟩) λhn2=>go CJ 1 [] (λ_=>Ax [0,1,2] rfl<|B4<|go CJ 2 [] (λ_=>Dp [0,2] Ap (rd [0,1,2,3,4,5] (.br 6 (.br 7 (.br 8 (.br 9 .fin .fin) .fin) .fin) .fin)) rfl kR<|AA CJ 6 [1,0,1,100,0] (y<|y<|y<|And.intro (by simp only[Fo.len];omega)<|y2<|λ_=>Ag rfl ?_ Aj)));refine Kx rfl rfl (eC DC rfl rfl) (λw f hM=>ihx w f hM.vl hM.f7 b bk _ _ hall.2.1 hM.f1) (λ_=>⟨AK.mono,tQ⟩) (λe w2 f2 he hE=>⟨rfl,e,f2,rfl,(by simp[Gv,SP.need,Az,he,h1,hn1,hn2,hnd1]),hE⟩) ?_;rintro⟨nd2,and2,cnd2⟩ hnd2;dsimp only at hnd2 ⊢;refine go CJ 1 [] (λ_=>Ax [0,2] rfl<|Ag rfl ?_ Aj);refine go CJ 2 [] (λb4=>λ_=>Ax [1,3] rfl<|Ag rfl ?_ Aj);refine Dn 0 rfl rfl<|B5 (λw f=>AK w f (nd1.cons (nd2.one)) (some ⟨b4,0,none⟩) 2) (λw f hM=>Cj.toF (Cj.cons' hM.f1 (Cj.cons' hM.f0 (show Cj _ _ .nil [] from rfl))) hM.b0 (Nat.le_refl _)) AK.mono<|D4 rfl rfl (eC Bq rfl rfl) (λw f hM=>AE _ t _ _ _ _ _ _)<|go CJ 1 [] (λ_=>Bj [0,2] Fy rfl (λ_ h=>.tail _ h)<|Ag rfl ?_ Aj)
 exact go CJ 2 [1] (y<|λ_=>Bj [0,2] Fy rfl (λ_ h=>.tail _ h)<|B4<|go CJ 2 [] (λ_=>Bc (λw f hM=>AJ rfl (Ac rfl Bh hM.k1 rfl)) (λw f hM=>⟨(⟨18,t.ln,t.co,[],0,(nd1.cons (nd2.one))⟩,(some ⟨b4,0,none⟩),2),f,rfl,(by simp[Gv,SP.need,Az,h1,hn1,hn2,hnd1,hnd2]),hM.exm,⟨hM.f0,tQ⟩⟩)));refine AA CJ 5 [] (λ_=>Ag rfl ?_ Aj);refine Be rfl rfl (eC AO rfl rfl) (λw2 f2 he hE=>⟨rfl,_,f2,rfl,(by simp[Gv,SP.need,h1]),hE⟩) λhn3=>?_
 cases hn3
 refine Dp [0,1] Ap (.rd 0 (.rd 1 (.br 2 (rd [3,4,5,6,7,8] (.br 9 .fin .fin)) .fin))) rfl kR<|AA CJ 2 [1,1] (y<|y<|λ_=>Ag rfl ?_ Aj);refine D4 rfl rfl (eC H8 rfl rfl) (λw f hM=>C3 _ t _)<|go CJ 1 [] (λ_=>Ax [0,1] rfl<|AA CJ 1 [] (λ_=>K3 7 rfl (λh2=>?_) (λh2=>?_)));refine AA CJ 5 [1] (y<|λ_=>Ag rfl ?_ Aj);exact Be rfl rfl (eC AO rfl rfl) (λw2 f2 he hE=>⟨rfl,_,f2,rfl,(by exact VV hne),hE⟩) λhn4=>absurd (by simp at hn4;omega) hne;refine AA CJ 5 [] (λ_=>Ag rfl ?_ Aj);refine Be rfl rfl (eC AO rfl rfl) (λw2 f2 he hE=>⟨rfl,_,f2,rfl,(by exact VV hne),hE⟩) λhn5=>?_
 cases hn5
theorem Mi:∀n,∀(w:World)(f:Fq)(_:Vl w f)(_:D5 w f)(t:AM)(k:Fo)(a:Option Addr)(c:Nat),Hb n t k→Bx w f k a c→BS prog 38 #[fV t a k.len c] w (ID (By (n+1) t k) w f) (IK 42 (By (n+1) t k) w f)
 |0=>Rz 0 (λ_ hq=>by cases hq) (λ_ hq=>by cases hq)
 |n+1=>Rz (n+1) (λn' h=>by cases h;exact Mi n) (λn' h=>by cases h;exact Wl n (Mi n))
def wW:Eh:=⟨[(82,0,0),(80,3,4),(82,1,5)],[(44,82,6),(34,55,6)],[],[],[(82,true,6),(9,false,1),(55,true,6),(44,false,1)],[(55,[.int .i64 0,.int .i64 0,.int .i64 0,.string ⟨#[]⟩,.int .i64 0,.slice none 0 0]),(82,[.int .i64 0,.int .i64 0,.int .i64 0,.int .i64 0,.string ⟨#[]⟩,.slice none 0 0])],[],[]⟩
theorem Bv:wW.Ok prog:=⟨(And.intro Jb (And.intro IU (And.intro IJ tQ))),(And.intro Gq (And.intro FF tQ)),tQ,tQ,(And.intro Lr (And.intro GX (And.intro Bh (And.intro NJ tQ)))),(And.intro GJ (And.intro P5 tQ)),tQ,tQ⟩
theorem Rj(n:Nat)(ih:∀n',n=n'+1→∀ (w:World) (f:Fq) (_:Vl w f) (_:D5 w f) (t:AM) (k:Fo) (a:Option Addr) (c:Nat),Hb n' t k→Bx w f k a c→BS prog 37 #[fV t a k.len c] w (ID (Dk (n'+1) t k) w f) (IK 42 (Dk (n'+1) t k) w f))(w:World)(f:Fq)(hv:Vl w f)(hJ:D5 w f)(t:AM)(k:Fo)(ka:Option Addr)(kc:Nat)(hp:Hb n t k)(hL:Bx w f k ka kc) :
  BS prog 37 #[fV t ka k.len kc] w (ID (Dk (n+1) t k) w f) (IK 42 (Dk (n+1) t k) w f):=by
 refine Nl (X:=X0 w f) (H:=[]) (R:=[]) (B:=[]) (Fs:=[λw f=>Bx w f k ka kc,λw f=>D5 w f]) (f:=f) func37 rfl rfl rfl (C8 hv ⟨hL,hJ,tQ⟩ ⟨Bx.mono,D5.mono,tQ⟩)<|go Bv 10 [1] (λb1=>λb2=>y<|λ_=>D4 rfl rfl (eC H8 rfl rfl) (λw f hM=>C3 _ t _)<|go Bv 3 [] (λ_=>Ba 11 rfl rfl (λh1=>?_) (λh1=>?_)));replace h1:=Gg h1;refine go Bv 5 [1] (y<|λ_=>D4 rfl rfl (eC Zy rfl rfl) (λw f hM=>JQ _ t _ hp.1.1)<|go Bv 2 [] (λ_=>Ba 13 rfl rfl (λh2=>?_) (λh2=>?_)));exact go Bv 7 [1,1] (y<|y<|λ_=>D4 rfl rfl (eC Bq rfl rfl) (λw f hM=>AE _ t _ _ _ _ _ _)<|go Bv 6 [0] (y<|λ_=>Bc (λw f hM=>AJ rfl (Ac rfl Bh hM.k0 rfl)) (λw f hM=>⟨(⟨31,t.ln,t.co,t.tx,0,.nil⟩,none,0),f,rfl,(by unfold Dk;simp[SP.need,Az,h1,h2]),hM.exm,⟨⟨Nat.zero_le _,.inl rfl⟩,tQ⟩⟩)));refine go Bv 4 [] (λ_=>Dp [0,1] Ap (.rd 0 (.rd 1 (.br 2 (.br 3 .fin .fin) .fin))) rfl kR<|AA Bv 2 [1,1] (y<|y<|λ_=>Ag rfl ?_ Aj));refine D4 rfl rfl (eC Tu rfl rfl) (λw f hM=>GD _ (D5.gl hM.f1) t _ hp.1.1 hp.1.2)<|go Bv 1 [] (λ_=>Ax [0,1] rfl<|Ag rfl ?_ Aj);exact Be rfl rfl (eC AO rfl rfl) (λw2 f2 he hE=>⟨rfl,_,f2,rfl,(by unfold Dk;simp[SP.need,Az,he,h1,h2]),hE⟩) λhn1=>go Bv 1 [] (λ_=>Ax [0,1] rfl<|B4<|go Bv 7 [1,1] (y<|y<|λ_=>D4 rfl rfl (eC Bq rfl rfl) (λw f hM=>AE _ t _ _ _ _ _ _)<|go Bv 5 [0] (y<|λ_=>Bc (λw f hM=>AJ rfl (Ac rfl Bh hM.k0 rfl)) (λw f hM=>⟨(⟨32,t.ln,t.co,t.tx,0,.nil⟩,none,0),f,rfl,(by unfold Dk;simp[SP.need,Az,h1,h2,hn1]),hM.exm,⟨⟨Nat.zero_le _,.inl rfl⟩,tQ⟩⟩))));replace h1:=Gs h1;refine go Bv 10 [1,1] (y<|y<|λ_=>Be rfl rfl (eC AO rfl rfl) (λw2 f2 he hE=>⟨rfl,_,f2,rfl,(by obtain rfl:k=.nil:=Fo.len0 (by have:=of_decide_eq_false he;omega);unfold Dk;simp[h1]),hE⟩) λhn2=>go Bv 3 [] (λ_=>?_));obtain⟨h,hk,r,rfl⟩:=Fo.cases1 k (by have:=of_decide_eq_true hn2;omega);have hp0:=hp;obtain⟨hto,hko,hkl,hdp⟩:=hp;have hkl2:r.len+1≤100000:=hkl;obtain⟨n,rfl⟩:∃q,n=q+1:=by cases n with|zero=>exact absurd hdp (by simp[Fo.deep])|succ q=>exact⟨q,rfl⟩
 refine B5 (λw f=>Bx w f r (DA ka kc 6) (kc-1)) (λw f hM=>A9.rest hM.f0) Bx.mono<|B5 (λw f=>A9 w f ka 0 (.cons h hk r)) (λw f hM=>Bx.at hM.f1) A9.mono<|C6 (α:=Nat×Nat×Option Addr×Nat) (λx=>ka=some ⟨x.1,x.2.1,none⟩) (λx=>[⟨x.1,x.2.1+0*6,J6 h x.2.2.1 hk.len x.2.2.2⟩]) (λx=>[λw f=>Bx w f hk x.2.2.1 x.2.2.2,λw f=>A9 w f ka 1 r]) (λw f hM=>let ⟨b,off,ka,kc,h1,h2,h3,h4⟩:=A9.head hM.f0;⟨(b,off,ka,kc),h1,(oE h2),A2.mem ⟨h3,h4,tQ⟩⟩) (λx=>Af.mem ⟨Bx.mono,A9.mono,tQ⟩) ?_;rintro⟨eb,eo,hka,hkc⟩ rfl;refine Dp [0,1] Ap (rd [0,1,2,3,4,5,6] (.br 7 (.br 8 (.rd 9 .fin) .fin) .fin)) rfl kR<|AA Bv 6 [1,100,0,1] (y<|And.intro (by first|(simp only[Fo.len];omega)|(dsimp only;omega)|omega)<|y2<|y<|λ_=>Ik rfl rfl rfl (λw hK=>Hz rfl rfl rfl Gq)<|Ag rfl ?_ Aj);refine go Bv 2 [] (λb3=>λ_=>Ax [1,2] rfl<|Ag rfl ?_ Aj);refine go Bv 2 [0] (y<|λ_=>Ax [1,2] rfl<|AA Bv 1 [] (λ_=>B4<|go Bv 13 [0] (y<|λ_=>D4 rfl rfl (eC KT rfl rfl) (λw f hM=>DL _ h _ _)<|go Bv 3 [] (λ_=>Ba 51 rfl rfl (λh3=>?_) (λh3=>?_)))));refine go Bv 6 [2] (y<|λ_=>Be rfl rfl (eC AO rfl rfl) (λw2 f2 he hE=>⟨rfl,_,f2,rfl,(by unfold Dk;simp[SP.need,Az,he,h1,hn2,h3]),hE⟩) λhn3=>go Bv 5 [] (λ_=>?_));refine Kx rfl rfl (eC D2 rfl rfl) (λw f hM=>Ca 37 KY (Dk (n+1)) (Hb n) (λw f hv hJ t k a c hd hT=>ih n rfl w f hv hJ t k a c hd hT) w f hM.vl hM.f5 r _ _ (D8 hp0).2 oM hM.f3) (λ_=>⟨AK.mono,tQ⟩) (λe w2 f2 he hE=>⟨rfl,e,f2,rfl,(by unfold Dk;simp[SP.need,Az,he,h1,hn2,h3,hn3]),hE⟩) ?_;rintro⟨⟨nds1,xnds1⟩,ands1,cnds1⟩ hnds1;dsimp only at hnds1 ⊢;refine go Bv 4 [] (λ_=>?_);have hnl:=Eu hnds1;have hge:2≤r.len:=by have:=of_decide_eq_true hn3;omega
 obtain⟨q,hq⟩:=Nd.getN (r.len-1) nds1 oM;refine C6 (α:=Nat×Nat×Option Addr×Nat) (λx=>ands1=some ⟨x.1,x.2.1,none⟩) (λx=>[⟨x.1,x.2.1+((r.len:Int)-1).toNat*6,FI q.op q.ln q.co q.tx q.nm x.2.2.1 q.kids.len x.2.2.2⟩]) (λx=>[λw f=>AK w f q.kids x.2.2.1 x.2.2.2]) (λw f hM=>let ⟨b,off,ka,kc,h1,h2,h3⟩:=AK.elem hM.f0 hq;⟨(b,off,ka,kc),h1,(λe he=>by cases he with|head=>(rw[show ((r.len:Int)-1).toNat=r.len-1 by omega];exact h2)|tail _ h=>cases h),A2.mem ⟨h3,tQ⟩⟩) (λx=>Af.mem ⟨AK.mono,tQ⟩) ?_;rintro⟨eb5,eo5,qa,qc⟩ rfl;refine go Bv 19 [100,0,0] (And.intro ⟨oM,oM⟩<|And.intro (by first|(simp only[Fo.len];omega)|(dsimp only;omega)|omega)<|y2<|λb4=>y<|And.intro ⟨oM,oM⟩<|λ_=>?_);refine HK (α:=Nat×N×Option Addr×Nat) (λx=>x.1) (λx=>x.1+1≤nds1.len∧CX t (nds1.drop x.1)=some x.2.1) (λx=>(E5 1 (.pointer (some ⟨b1,0,none⟩)) 2 (.pointer (some ⟨b2,0,none⟩)) 6 (.slice (some (⟨eb5,eo5,none⟩:Addr)) nds1.len cnds1) 7 (.pointer (some ⟨b4,0,none⟩)) 8 (.int .i64 ((x.1:Int)-1)))) (λx=>X0 w f) (λx=>[⟨b4,[.int .i64 x.2.1.op,.int .i64 x.2.1.ln,.int .i64 x.2.1.co,S x.2.1.tx,.int .i64 x.2.1.nm,.slice x.2.2.1 x.2.1.kids.len x.2.2.2],55,true⟩,⟨b2,[.int .i64 0,.int .i64 0,.int .i64 0,.string ⟨#[]⟩,.int .i64 0,.slice none 0 0],55,true⟩,⟨b1,[.int .i64 t.k,.int .i64 t.ln,.int .i64 t.co,.int .i64 t.nm,S t.tx,.slice (some (⟨eb,eo,none⟩:Addr)) (Fo.cons h hk r).len kc],82,true⟩]) (λx=>[]) (λx=>[]) (λx=>[λw f=>AK w f nds1 (some (⟨eb5,eo5,none⟩:Addr)) cnds1,λw f=>AK w f x.2.1.kids x.2.2.1 x.2.2.2]) (r.len-1,q,qa,qc) ⟨show r.len-1+1≤nds1.len by omega,SD hq oM⟩ (aO rfl rfl rfl rfl (Eq.trans (b:=some (Value.int .i64 ((r.len:Int)-2))) rfl (by dsimp only;rw[show ((r.len:Int)-2)=((r.len-1:Nat):Int)-1 by omega]))) (λw f hM=>hM.less (sK (sD (sK (sK sZ)))) sR nE (mR [1,0])) ?_;rintro⟨j,o,oa,oc⟩ ⟨hj,har⟩;dsimp only at hj har ⊢;refine go Bv 7 [] (λ_=>Ba 68 rfl rfl (λh4=>?_) (λh4=>?_));refine go Bv 5 [] (λ_=>?_);obtain⟨j,rfl⟩:∃q,j=q+1:=⟨j-1,by have:=of_decide_eq_true h4;omega⟩;obtain⟨q2,hq2⟩:=Nd.getN j nds1 oM;refine C6 (α:=Nat×Nat×Option Addr×Nat) (λx=>(some (⟨eb5,eo5,none⟩:Addr))=some ⟨x.1,x.2.1,none⟩) (λx=>[⟨x.1,x.2.1+(((j+1:Nat):Int)-1).toNat*6,FI q2.op q2.ln q2.co q2.tx q2.nm x.2.2.1 q2.kids.len x.2.2.2⟩]) (λx=>[λw f=>AK w f q2.kids x.2.2.1 x.2.2.2]) (λw f hM=>let ⟨b,off,ka,kc,h1,h2,h3⟩:=AK.elem hM.f0 hq2;⟨(b,off,ka,kc),h1,(λe he=>by cases he with|head=>(rw[show (((j+1:Nat):Int)-1).toNat=j by omega];exact h2)|tail _ h=>cases h),A2.mem ⟨h3,tQ⟩⟩) (λx=>Af.mem ⟨AK.mono,tQ⟩) ?_;rintro⟨eb6,eo6,qa2,qc2⟩ h44;obtain⟨rfl,rfl⟩:eb5=eb6∧eo5=eo6:=by cases h44;exact⟨rfl,rfl⟩
 refine Dp [1,2] Ap (rd [0,1,2,3,4] (.br 5 (.br 6 (.br 7 (.br 8 .fin .fin) .fin) .fin) .fin)) rfl kR<|AA Bv 5 [1,100,0] (y<|And.intro (by first|(simp only[Fo.len];omega)|(dsimp only;omega)|omega)<|y2<|λ_=>Ag rfl ?_ Aj);refine go Bv 2 [0] (y<|λ_=>Ax [1,2] rfl<|Ag rfl ?_ Aj);refine go Bv 2 [] (λb5=>λ_=>Ax [2,3] rfl<|Ag rfl ?_ Aj);refine Dn 0 rfl rfl<|B5 (λw f=>AK w f (q2.cons (o.one)) (some ⟨b5,0,none⟩) 2) (λw f hM=>Cj.toF (Cj.cons' hM.f0 (Cj.cons' hM.f2 (show Cj _ _ .nil [] from rfl))) hM.b0 (Nat.le_refl _)) AK.mono<|D4 rfl rfl (eC Bq rfl rfl) (λw f hM=>AE _ t _ _ _ _ _ _)<|go Bv 1 [] (λ_=>Bj [1,2] Fy rfl (λ_ h=>.tail _ h)<|Ag rfl ?_ Aj);exact go Bv 2 [0] (y<|λ_=>Bj [1,2] Fy rfl (λ_ h=>.tail _ h)<|B4<|go Bv 7 [] (And.intro ⟨oM,oM⟩<|λ_=>DM ((j,Az t 32 [45,62] (q2.cons o.one),(some ⟨b5,0,none⟩),2)) (Nat.lt_succ_self _) ⟨show j+1≤nds1.len by omega,Sb hq2 har⟩ (aO rfl rfl rfl rfl (Eq.trans (b:=some (Value.int .i64 ((((j+1:Nat):Int)-1)-1))) rfl (by dsimp only;rw[show ((((j+1:Nat):Int)-1)-1)=(j:Int)-1 by omega]))) (λw f hM=>⟨_,hM.less (sK (sK (sK sZ))) sR nE (mR [2,0])⟩)));refine go Bv 3 [] (λ_=>GR<|go Bv 11 [0,1] (y<|y<|λ_=>?_));obtain rfl:j=0:=by have:=of_decide_eq_false h4;omega
 have har2:CX t nds1=some o:=har;exact Bc (λw f hM=>AJ rfl (Ac rfl Bh hM.k1 rfl)) (λw f hM=>⟨(o,oa,oc),f,rfl,(by unfold Dk;simp[SP.need,h1,hn2,h3,hn3,hnds1,har2]),hM.exm,⟨hM.f1,tQ⟩⟩);refine go Bv 4 [0] (y<|λ_=>D4 rfl rfl (eC KT rfl rfl) (λw f hM=>DL _ h _ _)<|go Bv 3 [] (λ_=>Ba 80 rfl rfl (λh5=>?_) (λh5=>?_)));refine go Bv 1 [] (λ_=>Dp [0,1,2] Ap (.rd 0 (.rd 1 (.br 2 (.br 3 .fin .fin) .fin))) rfl kR<|AA Bv 2 [2] (y<|λ_=>Ag rfl ?_ Aj));refine D4 rfl rfl (eC Jm rfl rfl) (λw f hM=>Dw _ _ _ _)<|go Bv 1 [] (λ_=>Ax [0,1,2] rfl<|Ag rfl ?_ Aj);refine Be rfl rfl (eC AO rfl rfl) (λw2 f2 he hE=>⟨rfl,_,f2,rfl,(by unfold Dk;simp[SP.need,Az,he,h1,hn2,h3,h5]),hE⟩) λhn4=>go Bv 1 [] (λ_=>Ax [0,1,2] rfl<|B4<|go Bv 3 [] (λ_=>Dp [0,2] Ap (rd [0,1,2,3,4] (.br 5 (.br 6 (.br 7 .fin .fin) .fin) .fin)) rfl kR<|AA Bv 5 [1,0] (y<|y<|λ_=>Ag rfl ?_ Aj)));refine Kx rfl rfl (eC D2 rfl rfl) (λw f hM=>Ca 37 KY (Dk (n+1)) (Hb n) (λw f hv hJ t k a c hd hT=>ih n rfl w f hv hJ t k a c hd hT) w f hM.vl hM.f5 r _ _ (D8 hp0).2 oM hM.f3) (λ_=>⟨AK.mono,tQ⟩) (λe w2 f2 he hE=>⟨rfl,e,f2,rfl,(by unfold Dk;simp[SP.need,Az,he,h1,hn2,h3,h5,hn4]),hE⟩) ?_;rintro⟨⟨nds3,xnds3⟩,ands3,cnds3⟩ hnds3;dsimp only at hnds3 ⊢;refine go Bv 1 [] (λ_=>Ax [0,2] rfl<|Ag rfl ?_ Aj);refine D4 rfl rfl (eC Bq rfl rfl) (λw f hM=>AE _ t _ _ _ _ _ _)<|go Bv 1 [] (λ_=>Ax [0,2] rfl<|Ag rfl ?_ Aj);exact go Bv 2 [1] (y<|λ_=>Ax [0,2] rfl<|B4<|go Bv 2 [] (λ_=>Bc (λw f hM=>AJ rfl (Ac rfl Bh hM.k1 rfl)) (λw f hM=>⟨(⟨32,t.ln,t.co,h.tx,0,nds3⟩,ands3,cnds3),f,rfl,(by unfold Dk;simp[SP.need,Az,h1,hn2,h3,h5,hn4,hnds3]),hM.exm,⟨hM.f0,tQ⟩⟩)));refine go Bv 4 [0] (y<|λ_=>D4 rfl rfl (eC KT rfl rfl) (λw f hM=>DL _ h _ _)<|go Bv 1 [] (λ_=>Ba 90 rfl rfl (λh6=>?_) (λh6=>?_)));refine go Bv 11 [2] (y<|λ_=>Be rfl rfl (eC AO rfl rfl) (λw2 f2 he hE=>⟨rfl,_,f2,rfl,(by unfold Dk;simp[SP.need,Az,he,h1,hn2,h3,h5,h6]),hE⟩) λhn5=>go Bv 4 [] (λ_=>Dp [0,2] Ap (rd [0,1,2,3,4] (.br 5 (.br 6 (.br 7 .fin .fin) .fin) .fin)) rfl kR<|AA Bv 5 [1,0] (y<|y<|λ_=>Ag rfl ?_ Aj)));refine Kx rfl rfl (eC D2 rfl rfl) (λw f hM=>Ca 37 KY (Dk (n+1)) (Hb n) (λw f hv hJ t k a c hd hT=>ih n rfl w f hv hJ t k a c hd hT) w f hM.vl hM.f5 r _ _ (D8 hp0).2 oM hM.f3) (λ_=>⟨AK.mono,tQ⟩) (λe w2 f2 he hE=>⟨rfl,e,f2,rfl,(by unfold Dk;simp[SP.need,Az,he,h1,hn2,h3,h5,h6,hn5]),hE⟩) ?_;rintro⟨⟨nds4,xnds4⟩,ands4,cnds4⟩ hnds4;dsimp only at hnds4 ⊢;refine go Bv 1 [] (λ_=>Ax [0,2] rfl<|Ag rfl ?_ Aj);refine D4 rfl rfl (eC Bq rfl rfl) (λw f hM=>AE _ t _ _ _ _ _ _)<|go Bv 1 [] (λ_=>Ax [0,2] rfl<|Ag rfl ?_ Aj);exact go Bv 2 [1] (y<|λ_=>Ax [0,2] rfl<|B4<|go Bv 2 [] (λ_=>Bc (λw f hM=>AJ rfl (Ac rfl Bh hM.k1 rfl)) (λw f hM=>⟨(⟨32,t.ln,t.co,h.tx,0,nds4⟩,ands4,cnds4),f,rfl,(by unfold Dk;simp[SP.need,Az,h1,hn2,h3,h5,h6,hn5,hnds4]),hM.exm,⟨hM.f0,tQ⟩⟩)))
 refine go Bv 1 [0] (y<|λ_=>D4 rfl rfl (eC KT rfl rfl) (λw f hM=>DL _ h _ _)<|go Bv 4 [] (λ_=>Ba 87 rfl rfl (λh7=>?_) (λh7=>?_)));refine go Bv 5 [2] (y<|λ_=>Be rfl rfl (eC AO rfl rfl) (λw2 f2 he hE=>⟨rfl,_,f2,rfl,(by unfold Dk;simp[SP.need,Az,he,h1,hn2,h3,h5,h6,h7]),hE⟩) λhn6=>go Bv 4 [] (λ_=>Dp [0,2] Ap (rd [0,1,2,3,4] (.br 5 (.br 6 (.br 7 .fin .fin) .fin) .fin)) rfl kR<|AA Bv 5 [1,0] (y<|y<|λ_=>Ag rfl ?_ Aj)));refine Kx rfl rfl (eC D2 rfl rfl) (λw f hM=>Ca 37 KY (Dk (n+1)) (Hb n) (λw f hv hJ t k a c hd hT=>ih n rfl w f hv hJ t k a c hd hT) w f hM.vl hM.f5 r _ _ (D8 hp0).2 oM hM.f3) (λ_=>⟨AK.mono,tQ⟩) (λe w2 f2 he hE=>⟨rfl,e,f2,rfl,(by unfold Dk;simp[SP.need,Az,he,h1,hn2,h3,h5,h6,h7,hn6]),hE⟩) ?_;rintro⟨⟨nds5,xnds5⟩,ands5,cnds5⟩ hnds5;dsimp only at hnds5 ⊢;refine go Bv 1 [] (λ_=>Ax [0,2] rfl<|Ag rfl ?_ Aj);refine D4 rfl rfl (eC Bq rfl rfl) (λw f hM=>AE _ t _ _ _ _ _ _)<|go Bv 1 [] (λ_=>Ax [0,2] rfl<|Ag rfl ?_ Aj);exact go Bv 2 [1] (y<|λ_=>Ax [0,2] rfl<|B4<|go Bv 2 [] (λ_=>Bc (λw f hM=>AJ rfl (Ac rfl Bh hM.k1 rfl)) (λw f hM=>⟨(⟨32,t.ln,t.co,h.tx,0,nds5⟩,ands5,cnds5),f,rfl,(by unfold Dk;simp[SP.need,Az,h1,hn2,h3,h5,h6,h7,hn6,hnds5]),hM.exm,⟨hM.f0,tQ⟩⟩)));refine go Bv 1 [] (λ_=>Dp [0,1,2] Ap (.rd 0 (.rd 1 (.br 2 (.rd 3 (.rd 4 (.br 5 (.rd 6 (.br 7 .fin .fin)) .fin))) .fin))) rfl kR<|AA Bv 2 [2,0] (y<|y<|λ_=>Ag rfl ?_ Aj));refine D4 rfl rfl (eC Tu rfl rfl) (λw f hM=>GD _ (D5.gl hM.f5) h _ hko.1.1 hko.1.2)<|go Bv 1 [] (λ_=>Ax [0,1,2] rfl<|AA Bv 1 [] (λ_=>K3 46 rfl (λh8=>?_) (λh8=>?_)));refine AA Bv 1 [] (λ_=>Ag rfl ?_ Aj);refine D4 rfl rfl (eC Jm rfl rfl) (λw f hM=>Dw _ _ _ _)<|go Bv 1 [] (λ_=>Ax [0,1,2] rfl<|AA Bv 1 [] (λ_=>Ag rfl ?_ Aj));refine Be rfl rfl (eC AO rfl rfl) (λw2 f2 he hE=>⟨rfl,_,f2,rfl,(by unfold Dk;simp[SP.need,Az,he,h1,hn2,h3,h5,h6,h7,h8]),hE⟩) λhn7=>go Bv 1 [] (λ_=>Ax [0,1,2] rfl<|B4<|go Bv 3 [] (λ_=>Dp [0,2] Ap (rd [0,1,2,3,4] (.br 5 (.br 6 (.br 7 .fin .fin) .fin) .fin)) rfl kR<|AA Bv 5 [1,0] (y<|y<|λ_=>Ag rfl ?_ Aj)));refine Kx rfl rfl (eC D2 rfl rfl) (λw f hM=>Ca 37 KY (Dk (n+1)) (Hb n) (λw f hv hJ t k a c hd hT=>ih n rfl w f hv hJ t k a c hd hT) w f hM.vl hM.f5 r _ _ (D8 hp0).2 oM hM.f3) (λ_=>⟨AK.mono,tQ⟩) (λe w2 f2 he hE=>⟨rfl,e,f2,rfl,(by unfold Dk;simp[SP.need,Az,he,h1,hn2,h3,h5,h6,h7,h8,hn7]),hE⟩) ?_;rintro⟨⟨nds6,xnds6⟩,ands6,cnds6⟩ hnds6;dsimp only at hnds6 ⊢;refine go Bv 1 [] (λ_=>Ax [0,2] rfl<|Ag rfl ?_ Aj);refine D4 rfl rfl (eC Bq rfl rfl) (λw f hM=>AE _ t _ _ _ _ _ _)<|go Bv 1 [] (λ_=>Ax [0,2] rfl<|Ag rfl ?_ Aj);exact go Bv 2 [1] (y<|λ_=>Ax [0,2] rfl<|B4<|go Bv 2 [] (λ_=>Bc (λw f hM=>AJ rfl (Ac rfl Bh hM.k1 rfl)) (λw f hM=>⟨(⟨32,t.ln,t.co,h.tx,0,nds6⟩,ands6,cnds6),f,rfl,(by unfold Dk;simp[SP.need,Az,h1,hn2,h3,h5,h6,h7,h8,hn7,hnds6]),hM.exm,⟨hM.f0,tQ⟩⟩)));refine AA Bv 1 [] (λ_=>Ag rfl ?_ Aj);refine go Bv 2 [] (λ_=>Ax [0,1,2] rfl<|AA Bv 1 [] (λ_=>Ag rfl ?_ Aj))
 refine Be rfl rfl (eC AO rfl rfl) (λw2 f2 he hE=>⟨rfl,_,f2,rfl,(by unfold Dk;simp[SP.need,Az,he,h1,hn2,h3,h5,h6,h7,h8]),hE⟩) λhn8=>?_
 cases hn8
theorem Ma:∀n,∀(w:World)(f:Fq)(_:Vl w f)(_:D5 w f)(t:AM)(k:Fo)(a:Option Addr)(c:Nat),Hb n t k→Bx w f k a c→BS prog 37 #[fV t a k.len c] w (ID (Dk (n+1) t k) w f) (IK 42 (Dk (n+1) t k) w f)
 |0=>Rj 0 (λ_ hq=>by cases hq)
 |n+1=>Rj (n+1) (λn' h=>by cases h;exact Ma n)
def xT:Eh:=⟨[(82,1,5),(82,0,0),(80,0,0),(80,3,4)],[(44,82,6)],[],[],[(82,true,6),(44,false,1),(3,false,1),(9,false,1),(55,true,6)],[(55,[.int .i64 0,.int .i64 0,.int .i64 0,.string ⟨#[]⟩,.int .i64 0,.slice none 0 0])],[],[]⟩
theorem HL:xT.Ok prog:=⟨(And.intro IJ (And.intro Jb (And.intro Qe (And.intro IU tQ)))),(And.intro Gq tQ),tQ,tQ,(And.intro Lr (And.intro NJ (And.intro Dd (And.intro GX (And.intro Bh tQ))))),(And.intro GJ tQ),tQ,tQ⟩
theorem UJ(n:Nat)(w:World)(f:Fq)(hv:Vl w f)(hJ:D5 w f)(t:AM)(k:Fo)(ka:Option Addr)(kc:Nat)(hp:Hb (n+1) t k)(hL:Bx w f k ka kc) :
  BS prog 35 #[fV t ka k.len kc] w (ID (FN (n+1) t k) w f) (IK 42 (FN (n+1) t k) w f):=by
 refine Nl (X:=X0 w f) (H:=[]) (R:=[]) (B:=[]) (Fs:=[λw f=>Bx w f k ka kc,λw f=>D5 w f]) (f:=f) func35 rfl rfl rfl (C8 hv ⟨hL,hJ,tQ⟩ ⟨Bx.mono,D5.mono,tQ⟩)<|go HL 7 [] (λb1=>λb2=>λ_=>?_);rcases Fo.nc k with rfl|⟨h,hk,r,rfl⟩
 refine Dp [0,1] Ap (.rd 0 (.rd 1 (.br 2 (rd [3,4,5,6,7,8,9,10,11,12,13,14,15,16,17,18,19,20,21,22,23] (.br 24 .fin .fin)) .fin))) rfl kR<|AA HL 2 [1,1] (y<|y<|λ_=>Ag rfl ?_ Aj);refine D4 rfl rfl (eC H8 rfl rfl) (λw f hM=>C3 _ t _)<|go HL 1 [] (λ_=>Ax [0,1] rfl<|AA HL 1 [] (λ_=>K3 6 rfl (λh1=>?_) (λh1=>?_)));refine AA HL 6 [1] (y<|λ_=>K3 12 rfl (λh2=>?_) (λh2=>?_));simp[Fo.len] at h2;refine AA HL 14 [] (λ_=>Ag rfl ?_ Aj);refine Be rfl rfl (eC AO rfl rfl) (λw2 f2 he hE=>⟨rfl,_,f2,rfl,(by simp[FN]),hE⟩) λhn1=>?_
 cases hn1
 refine AA HL 20 [] (λ_=>Ag rfl ?_ Aj);refine Be rfl rfl (eC AO rfl rfl) (λw2 f2 he hE=>⟨rfl,_,f2,rfl,(by simp[FN]),hE⟩) λhn2=>?_
 cases hn2
 have hkl:=hp.2.2.1;have hkl2:r.len+1≤100000:=hkl;refine B5 (λw f=>Bx w f r (DA ka kc 6) (kc-1)) (λw f hM=>A9.rest hM.f0) Bx.mono<|B5 (λw f=>A9 w f ka 0 (.cons h hk r)) (λw f hM=>Bx.at hM.f1) A9.mono<|C6 (α:=Nat×Nat×Option Addr×Nat) (λx=>ka=some ⟨x.1,x.2.1,none⟩) (λx=>[⟨x.1,x.2.1+0*6,J6 h x.2.2.1 hk.len x.2.2.2⟩]) (λx=>[λw f=>Bx w f hk x.2.2.1 x.2.2.2,λw f=>A9 w f ka 1 r]) (λw f hM=>let ⟨b,off,ka,kc,h1,h2,h3,h4⟩:=A9.head hM.f0;⟨(b,off,ka,kc),h1,(oE h2),A2.mem ⟨h3,h4,tQ⟩⟩) (λx=>Af.mem ⟨Bx.mono,A9.mono,tQ⟩) ?_;rintro⟨eb,eo,hka,hkc⟩ rfl;refine Dp [0,1] Ap (.rd 0 (.rd 1 (.br 2 (rd [3,4,5,6,7,8,9,10,11,12,13,14,15,16,17,18,19,20,21,22,23] (.br 24 .fin .fin)) .fin))) rfl kR<|AA HL 2 [1,1] (y<|y<|λ_=>Ag rfl ?_ Aj);refine D4 rfl rfl (eC H8 rfl rfl) (λw f hM=>C3 _ t _)<|go HL 1 [] (λ_=>Ax [0,1] rfl<|AA HL 1 [] (λ_=>K3 6 rfl (λh3=>?_) (λh3=>?_)));refine AA HL 6 [1] (y<|λ_=>K3 12 rfl (λh4=>?_) (λh4=>?_));refine AA HL 9 [1,100,0] (y<|And.intro (by first|(simp only[Fo.len];omega)|omega)<|y2<|λ_=>K3 21 rfl (λh5=>?_) (λh5=>?_));refine AA HL 5 [1] (y<|λ_=>Ag rfl ?_ Aj);refine Be rfl rfl (eC AO rfl rfl) (λw2 f2 he hE=>⟨rfl,_,f2,rfl,(by simp[FN,SP.need,Az,he,h3,h4,h5]),hE⟩) λhn3=>go HL 1 [] (λ_=>Ax [0,1] rfl<|B4<|go HL 2 [] (λ_=>Dp [1] Ap (rd [0,1,2,3,4,5,6,7,8,9] (.br 10 (.br 11 (.br 12 .fin .fin) .fin) .fin)) rfl kR<|AA HL 9 [0,0,100,4,0] (y<|y<|And.intro (by first|(simp only[Fo.len];omega)|omega)<|y2<|y<|λ_=>Ik rfl rfl rfl (λw hK=>Hz rfl rfl rfl Gq)<|Ag rfl ?_ Aj)));refine Kx rfl rfl (eC D2 rfl rfl) (λw f hM=>Ca 37 KY (Dk (n+1)) (Hb n) (λw f hv hJ t k a c hd hT=>Ma n w f hv hJ t k a c hd hT) w f hM.vl hM.f5 r _ _ (D8 hp).2 oM hM.f3) (λ_=>⟨AK.mono,tQ⟩) (λe w2 f2 he hE=>⟨rfl,e,f2,rfl,(by simp[FN,SP.need,Az,he,h3,h4,h5,hn3]),hE⟩) ?_;rintro⟨⟨nds1,xnds1⟩,ands1,cnds1⟩ hnds1;dsimp only at hnds1 ⊢;refine go HL 1 [] (λ_=>Ax [1] rfl<|Ag rfl ?_ Aj);refine D4 rfl rfl (eC Bq rfl rfl) (λw f hM=>AE _ t _ _ _ _ _ _)<|go HL 1 [] (λ_=>Ax [1] rfl<|Ag rfl ?_ Aj);exact go HL 2 [0] (y<|λ_=>Ax [1] rfl<|B4<|go HL 2 [] (λ_=>Bc (λw f hM=>AJ rfl (Ac rfl Bh hM.k0 rfl)) (λw f hM=>⟨(⟨42,t.ln,t.co,h.tx,0,nds1⟩,ands1,cnds1),f,rfl,(by simp[FN,SP.need,Az,h3,h4,h5,hn3,hnds1]),hM.exm,⟨hM.f0,tQ⟩⟩)));refine AA HL 5 [] (λ_=>Ag rfl ?_ Aj);refine Be rfl rfl (eC AO rfl rfl) (λw2 f2 he hE=>⟨rfl,_,f2,rfl,(by simp[FN,SP.need,Az,he,h3,h4,h5]),hE⟩) λhn4=>?_
 cases hn4
 have h9:=of_decide_eq_false h4;simp only[Fo.len] at h9;omega;refine AA HL 20 [] (λ_=>Ag rfl ?_ Aj);refine Be rfl rfl (eC AO rfl rfl) (λw2 f2 he hE=>⟨rfl,_,f2,rfl,(by simp[FN,SP.need,Az,he,h3]),hE⟩) λhn5=>?_
 cases hn5
def wN:Eh:=⟨[(82,1,5),(82,0,0),(80,3,4)],[(44,82,6),(34,55,6)],[],[],[(82,true,6),(44,false,1),(9,false,1),(55,true,6)],[(55,[.int .i64 0,.int .i64 0,.int .i64 0,.string ⟨#[]⟩,.int .i64 0,.slice none 0 0]),(82,[.int .i64 0,.int .i64 0,.int .i64 0,.int .i64 0,.string ⟨#[]⟩,.slice none 0 0])],[],[]⟩
theorem AH:wN.Ok prog:=⟨(And.intro IJ (And.intro Jb (And.intro IU tQ))),(And.intro Gq (And.intro FF tQ)),tQ,tQ,(And.intro Lr (And.intro NJ (And.intro GX (And.intro Bh tQ)))),(And.intro GJ (And.intro P5 tQ)),tQ,tQ⟩
set_option maxHeartbeats 1000000 in
theorem WS(n:Nat)(w:World)(f:Fq)(hv:Vl w f)(hJ:D5 w f)(t:AM)(k:Fo)(ka:Option Addr)(kc:Nat)(hp:Hb (n+1) t k)(hL:Bx w f k ka kc) :
  BS prog 12 #[fV t ka k.len kc] w (ID (CA (n+1) t k) w f) (IK 42 (CA (n+1) t k) w f):=by
 have ihx:=Mi n;refine Nl (X:=X0 w f) (H:=[]) (R:=[]) (B:=[]) (Fs:=[λw f=>Bx w f k ka kc,λw f=>D5 w f]) (f:=f) func12 rfl rfl rfl (C8 hv ⟨hL,hJ,tQ⟩ ⟨Bx.mono,D5.mono,tQ⟩)<|go AH 7 [] (λb1=>λb2=>λ_=>?_);rcases Fo.nc k with rfl|⟨h,hk,r,rfl⟩
 refine Dp [0,1] Ap (.rd 0 (.rd 1 (.br 2 (rd [3,4,5,6,7,8,9,10,11,12,13] (.br 14 (.rd 15 (.br 16 .fin .fin)) .fin)) .fin))) rfl kR<|AA AH 2 [1,1] (y<|y<|λ_=>Ag rfl ?_ Aj);refine D4 rfl rfl (eC H8 rfl rfl) (λw f hM=>C3 _ t _)<|go AH 1 [] (λ_=>Ax [0,1] rfl<|AA AH 1 [] (λ_=>K3 11 rfl (λh1=>?_) (λh1=>?_)));refine AA AH 6 [1] (y<|λ_=>K3 17 rfl (λh2=>?_) (λh2=>?_));simp[Fo.len] at h2;refine AA AH 4 [] (λ_=>Ag rfl ?_ Aj);refine go AH 2 [] (λ_=>Ax [0,1] rfl<|AA AH 1 [] (λ_=>Ag rfl ?_ Aj));refine Be rfl rfl (eC AO rfl rfl) (λw2 f2 he hE=>⟨rfl,_,f2,rfl,(by simp[CA]),hE⟩) λhn1=>?_
 cases hn1
 refine AA AH 10 [] (λ_=>Ag rfl ?_ Aj);refine go AH 2 [] (λ_=>Ax [0,1] rfl<|AA AH 1 [] (λ_=>Ag rfl ?_ Aj));refine Be rfl rfl (eC AO rfl rfl) (λw2 f2 he hE=>⟨rfl,_,f2,rfl,(by simp[CA]),hE⟩) λhn2=>?_
 cases hn2
 have hkl:=hp.2.2.1;have hkl2:r.len+1≤100000:=hkl;have hall:=(D8 hp).2;refine B5 (λw f=>Bx w f r (DA ka kc 6) (kc-1)) (λw f hM=>A9.rest hM.f0) Bx.mono<|B5 (λw f=>A9 w f ka 0 (.cons h hk r)) (λw f hM=>Bx.at hM.f1) A9.mono<|C6 (α:=Nat×Nat×Option Addr×Nat) (λx=>ka=some ⟨x.1,x.2.1,none⟩) (λx=>[⟨x.1,x.2.1+0*6,J6 h x.2.2.1 hk.len x.2.2.2⟩]) (λx=>[λw f=>Bx w f hk x.2.2.1 x.2.2.2,λw f=>A9 w f ka 1 r]) (λw f hM=>let ⟨b,off,ka,kc,h1,h2,h3,h4⟩:=A9.head hM.f0;⟨(b,off,ka,kc),h1,(oE h2),A2.mem ⟨h3,h4,tQ⟩⟩) (λx=>Af.mem ⟨Bx.mono,A9.mono,tQ⟩) ?_;rintro⟨eb,eo,hka,hkc⟩ rfl;refine Dp [0,1] Ap (.rd 0 (.rd 1 (.br 2 (rd [3,4,5,6,7,8,9,10,11,12,13] (.br 14 (.rd 15 (.br 16 .fin .fin)) .fin)) .fin))) rfl kR<|AA AH 2 [1,1] (y<|y<|λ_=>Ag rfl ?_ Aj);refine D4 rfl rfl (eC H8 rfl rfl) (λw f hM=>C3 _ t _)<|go AH 1 [] (λ_=>Ax [0,1] rfl<|AA AH 1 [] (λ_=>K3 11 rfl (λh3=>?_) (λh3=>?_)));refine AA AH 6 [1] (y<|λ_=>K3 17 rfl (λh4=>?_) (λh4=>?_));refine AA AH 4 [1,100,0] (y<|And.intro (by first|(simp only[Fo.len];omega)|(dsimp only;omega)|omega)<|y2<|λ_=>Ag rfl ?_ Aj);refine D4 rfl rfl (eC YY rfl rfl) (λw f hM=>G2 _ h _)<|go AH 1 [] (λ_=>Ax [0,1] rfl<|AA AH 1 [] (λ_=>Ag rfl ?_ Aj));refine Be rfl rfl (eC AO rfl rfl) (λw2 f2 he hE=>⟨rfl,_,f2,rfl,(by simp[CA,SP.need,Az,he,h3,h4]),hE⟩) λhn3=>go AH 1 [] (λ_=>Ax [0,1] rfl<|B4<|go AH 5 [1] (y<|λ_=>EU rfl rfl (λw f hM=>Hz rfl rfl rfl Gq)<|go AH 4 [] (λ_=>?_)));generalize hla:DA (some (⟨eb,eo,none⟩:Addr)) kc 6=la;refine go AH 24 [1,100,4] (y<|And.intro (by first|(simp only[Fo.len];omega)|(dsimp only;omega)|omega)<|y2<|λ_=>Ba 36 rfl rfl (λh5=>?_) (λh5=>?_));refine go AH 2 [] (λ_=>?_);rcases Fo.most r with ⟨a,ak,b,bk,c,ck,r2,rfl⟩|hne
 refine KA (p:=(Fo.cons a ak (.cons b bk (.cons c ck r2))).len≤kc-1) (λw f hM=>hM.f3.1) λhcap=>?_;have hcap2:r2.len+3≤kc-1:=hcap;have hkl3:r2.len+3+1≤100000:=hkl2;have hbl:bk.len≤100000:=hall.2.1.2.2.1;refine B5 (λw f=>A9 w f la 0 (.cons a ak (.cons b bk (.cons c ck r2)))) (λw f hM=>Bx.at hM.f3) A9.mono<|C6 (α:=Nat×Nat×Option Addr×Nat) (λx=>la=some ⟨x.1,x.2.1,none⟩) (λx=>[⟨x.1,x.2.1+0*6,J6 a x.2.2.1 ak.len x.2.2.2⟩]) (λx=>[λw f=>Bx w f ak x.2.2.1 x.2.2.2,λw f=>A9 w f la 1 (.cons b bk (.cons c ck r2))]) (λw f hM=>let ⟨b,off,ka,kc,h1,h2,h3,h4⟩:=A9.head hM.f0;⟨(b,off,ka,kc),h1,(oE h2),A2.mem ⟨h3,h4,tQ⟩⟩) (λx=>Af.mem ⟨Bx.mono,A9.mono,tQ⟩) ?_;rintro⟨eb0,eo0,k0a,k0c⟩ rfl;refine C6 (α:=Nat×Nat×Option Addr×Nat) (λx=>(some (⟨eb0,eo0,none⟩:Addr))=some ⟨x.1,x.2.1,none⟩) (λx=>[⟨x.1,x.2.1+1*6,J6 b x.2.2.1 bk.len x.2.2.2⟩]) (λx=>[λw f=>Bx w f bk x.2.2.1 x.2.2.2,λw f=>A9 w f (some (⟨eb0,eo0,none⟩:Addr)) 2 (.cons c ck r2)]) (λw f hM=>let ⟨b,off,ka,kc,h1,h2,h3,h4⟩:=A9.head hM.f1;⟨(b,off,ka,kc),h1,(oE h2),A2.mem ⟨h3,h4,tQ⟩⟩) (λx=>Af.mem ⟨Bx.mono,A9.mono,tQ⟩) ?_;rintro⟨eb1,eo1,k1a,k1c⟩ h44;obtain⟨rfl,rfl⟩:eb0=eb1∧eo0=eo1:=by cases h44;exact⟨rfl,rfl⟩
 refine Dp [0,1] Ap (rd [0,1,2,3,4,5,6] (.br 7 (rd [8,9,10,11,12] (.br 13 (rd [14,15,16,17,18,19,20,21,22] (.br 23 .fin .fin)) .fin)) .fin)) rfl kR<|AA AH 4 [1] (y<|λ_=>K3 41 rfl (λh6=>?_) (λh6=>?_));refine AA AH 3 [101,0] (And.intro (by first|(simp only[Fo.len];omega)|(dsimp only;omega)|omega)<|y2<|λ_=>Ag rfl ?_ Aj);refine D4 rfl rfl (eC Tu rfl rfl) (λw f hM=>GD _ (D5.gl hM.f10) a _ hall.1.1.1 hall.1.1.2)<|go AH 1 [] (λ_=>Ax [0,1] rfl<|AA AH 2 [] (λ_=>K3 47 rfl (λh7=>?_) (λh7=>?_)));refine AA AH 3 [100,0] (And.intro (by first|(simp only[Fo.len];omega)|(dsimp only;omega)|omega)<|y2<|λ_=>Ag rfl ?_ Aj);refine D4 rfl rfl (eC H8 rfl rfl) (λw f hM=>C3 _ b _)<|go AH 1 [] (λ_=>Ax [0,1] rfl<|AA AH 2 [] (λ_=>K3 53 rfl (λh8=>?_) (λh8=>?_)));refine AA AH 7 [100,5] (And.intro (by first|(simp only[Fo.len];omega)|(dsimp only;omega)|omega)<|y2<|λ_=>Ag rfl ?_ Aj);refine Be rfl rfl (eC AO rfl rfl) (λw2 f2 he hE=>⟨rfl,_,f2,rfl,(by simp[CA,SP.need,Az,he,h3,h4,hn3,h5,h6,h7,h8]),hE⟩) λhn4=>go AH 1 [] (λ_=>Ax [0,1] rfl<|B4<|go AH 18 [100,5] (And.intro (by first|(simp only[Fo.len];omega)|(dsimp only;omega)|omega)<|y2<|λ_=>B5 (λw f=>Bx w f (.cons c ck r2) (some ⟨eb0,eo0+2*6,none⟩) (kc-1-2)) (λw f hM=>A9.toF hM.f1 (by show r2.len+1≤_;omega)) Bx.mono<|Rd 55 6 ?_));refine HK (α:=Nat×Fo×Nd×List Value×Option Addr×Nat) (λx=>x.2.1.len) (λx=>x.1+x.2.1.len=bk.len∧x.2.2.1.len=x.1∧(BL bk=match BL x.2.1 with|none=>none|some y=>some (x.2.2.1.app y))∧x.2.1.all (λt _=>t.ok)) (λx=>(E7 1 (.pointer (some ⟨b1,0,none⟩)) 2 (.pointer (some ⟨b2,0,none⟩)) 3 (.slice (some (⟨eb0,eo0,none⟩:Addr)) (Fo.cons a ak (.cons b bk (.cons c ck r2))).len (kc-1)) 5 (.slice x.2.2.2.2.1 x.1 x.2.2.2.2.2) 65 (.slice k1a bk.len k1c) 66 (.int .i64 (bk.len:Int)) 67 (.int .i64 (x.1:Int)))) (λx=>X0 w f) (λx=>[⟨b2,[.int .i64 0,.int .i64 0,.int .i64 0,.string ⟨#[]⟩,.int .i64 0,.slice none 0 0],55,true⟩,⟨b1,[.int .i64 t.k,.int .i64 t.ln,.int .i64 t.co,.int .i64 t.nm,S t.tx,.slice (some (⟨eb,eo,none⟩:Addr)) (Fo.cons h hk (Fo.cons a ak (.cons b bk (.cons c ck r2)))).len kc],82,true⟩]) (λx=>[⟨55,6,x.2.2.2.2.1,x.2.2.2.2.2,x.1,x.2.2.2.1⟩]) (λx=>[]) (λx=>[λw f=>A9 w f k1a x.1 x.2.1,λw f=>Cj w f x.2.2.1 x.2.2.2.1,λw f=>A9 w f (some (⟨eb0,eo0,none⟩:Addr)) 0 (Fo.cons a ak (.cons b bk (.cons c ck r2))),λw f=>Bx w f (.cons c ck r2) (some ⟨eb0,eo0+2*6,none⟩) (kc-1-2),λw f=>D5 w f]) (0,bk,.nil,[],none,0) ⟨Nat.zero_add _,rfl,YS,Fo.ok.all hall.2.1.2.1⟩ lE (λw f hM=>hM.more (B':=[]) (F':=[λw f=>A9 w f k1a 0 bk,λw f=>Cj w f .nil []]) nE (A2.mem ⟨Bx.at hM.f1,rfl,tQ⟩) (Af.mem ⟨A9.mono,Cj.mono,tQ⟩) |>.less (sK (sK sZ)) sR nE (mR [0,1,7,2,13])) ?_;rintro⟨i,q,vs,xs,ra,rc⟩ ⟨hi,hvl,htv,hqo⟩;dsimp only at hi hvl htv hqo ⊢;refine go AH 6 [] (λ_=>Ba 68 rfl rfl (λh9=>?_) (λh9=>?_));refine go AH 6 [] (λ_=>?_);have hil:i<bk.len:=by have:=of_decide_eq_true h9;omega
 obtain⟨v,vk,q,rfl⟩:=Fo.cases1 q oM;have hi2:i+(q.len+1)=bk.len:=hi;refine C6 (α:=Nat×Nat×Option Addr×Nat) (λx=>k1a=some ⟨x.1,x.2.1,none⟩) (λx=>[⟨x.1,x.2.1+i*6,J6 v x.2.2.1 vk.len x.2.2.2⟩]) (λx=>[λw f=>Bx w f vk x.2.2.1 x.2.2.2,λw f=>A9 w f k1a (i+1) q]) (λw f hM=>let ⟨b,off,ka,kc,h1,h2,h3,h4⟩:=A9.head hM.f0;⟨(b,off,ka,kc),h1,(oE h2),A2.mem ⟨h3,h4,tQ⟩⟩) (λx=>Af.mem ⟨Bx.mono,A9.mono,tQ⟩) ?_;rintro⟨vb,vo,vka,vkc⟩ rfl;refine go AH 8 [100,0,0] (And.intro (by first|(simp only[Fo.len];omega)|(dsimp only;omega)|omega)<|y2<|λb3=>y<|λ_=>Dp [0,1,2] Ap (.rd 0 (.rd 1 (.br 2 (.br 3 .fin .fin) .fin))) rfl kR<|AA AH 2 [2,0] (y<|y<|λ_=>Ag rfl ?_ Aj));refine D4 rfl rfl (eC Zy rfl rfl) (λw f hM=>JQ _ v _ hqo.1.1)<|go AH 1 [] (λ_=>Ax [0,1,2] rfl<|Ag rfl ?_ Aj);exact Be rfl rfl (eC AO rfl rfl) (λw2 f2 he hE=>⟨rfl,_,f2,rfl,(by have h9:=jZ htv he;simp[CA,SP.need,h9,h3,h4,hn3,h5,h6,h7,h8,hn4]),hE⟩) λhn5=>go AH 1 [] (λ_=>Ax [0,1,2] rfl<|B4<|go AH 7 [0,0] (y<|y<|λ_=>D4 rfl rfl (eC Bq rfl rfl) (λw f hM=>AE _ v _ _ _ _ _ _)<|go AH 1 [] (λb4=>λ_=>DR 0 0 rfl rfl MC rfl rfl rfl rfl rfl rfl rfl rfl (λ_ _=>rfl) oM oM λra2 rc2=>go AH 8 [] (And.intro ⟨oM,oM⟩<|λ_=>DM ((i+1,q,(vs.app (Az v 31 v.tx .nil).one),(xs++FI 31 v.ln v.co v.tx 0 none 0 0),ra2,rc2)) (show q.len<q.len+1 from Nat.lt_succ_self _) ⟨show i+1+q.len=_ by omega,show (vs.app (Az v 31 v.tx .nil).one).len=i+1 by rw[Nd.app_len,hvl];rfl,eH htv hn5,hqo.2⟩ lE (λw f hM=>⟨_,(hM.more (B':=[]) (F':=[λw f=>Cj w f (vs.app (Az v 31 v.tx .nil).one) (xs++FI 31 v.ln v.co v.tx 0 none 0 0)]) nE (A2.mem ⟨Cj.app (Cj.one (k:=.nil) ⟨Nat.zero_le _,.inl rfl⟩) hM.f3,tQ⟩) (Af.mem ⟨Cj.mono,tQ⟩)).less (sD (sD (sK (sK sZ)))) sR nE (mR [2,0,5,6,7])⟩)))));refine go AH 3 [] (λ_=>GR<|go AH 3 [] (λ_=>?_));obtain rfl:q=.nil:=Fo.len0 (by have:=of_decide_eq_false h9;omega);have htv2:=jK htv;have hie:i=bk.len:=by have h9:i+0=bk.len:=hi;omega
 subst hvl;refine C6 (α:=Nat×Nat×Option Addr×Nat) (λx=>(some (⟨eb0,eo0,none⟩:Addr))=some ⟨x.1,x.2.1,none⟩) (λx=>[⟨x.1,x.2.1+0*6,J6 a x.2.2.1 ak.len x.2.2.2⟩]) (λx=>[λw f=>Bx w f ak x.2.2.1 x.2.2.2,λw f=>A9 w f (some (⟨eb0,eo0,none⟩:Addr)) 1 (.cons b bk (.cons c ck r2))]) (λw f hM=>let ⟨b,off,ka,kc,h1,h2,h3,h4⟩:=A9.head hM.f2;⟨(b,off,ka,kc),h1,(oE h2),A2.mem ⟨h3,h4,tQ⟩⟩) (λx=>Af.mem ⟨Bx.mono,A9.mono,tQ⟩) ?_;rintro⟨eb9,eo9,k9a,k9c⟩ h44;obtain⟨rfl,rfl⟩:eb0=eb9∧eo0=eo9:=by cases h44;exact⟨rfl,rfl⟩
 refine Dp [1] Ap (rd [0,1,2,3,4,5,6,7,8] (.br 9 (.br 10 (.br 11 (.br 12 .fin .fin) .fin) .fin) .fin)) rfl kR<|AA AH 8 [0,100,4] (y<|And.intro (by first|(simp only[Fo.len];omega)|(dsimp only;omega)|omega)<|y2<|λ_=>Ik rfl rfl rfl (λw hK=>Zc (Fo.cons c ck r2).len rfl rfl rfl oM Gq)<|Ag rfl ?_ Aj);refine Xb rfl rfl (eC D2 rfl rfl) (λw f hM=>HF 35 iI (FN (n+1)) (Hb (n+1)) (λw f hv hJ t k a c hd hT=>UJ n w f hv hJ t k a c hd hT) w f hM.vl hM.f6 (.cons c ck r2) _ _ (Fo.all_imp (λ_ _ h=>RF h) hall.2.2) (by show r2.len+1≤_;omega) hM.f5) (λ_=>⟨Cj.mono,tQ⟩) (λe w2 f2 he hE=>⟨rfl,e,f2,rfl,(by simp[CA,SP.need,Az,he,h3,h4,hn3,h5,h6,h7,h8,hn4,htv2]),hE⟩) ?_;rintro⟨nds1,xnds1⟩ ands1 cnds1 hnds1;dsimp only at hnds1 ⊢;have hnl:=Eu hnds1;have hnl2:nds1.len=r2.len+1:=hnl;refine KA (p:=∃rb,ands1=some ⟨rb,0,none⟩) (λw f hM=>by rcases (hM.row _ (.head _)).2 with ⟨_,_,h9⟩|⟨ob,_,h9,_⟩;(dsimp only at h9;omega);exact⟨ob,h9⟩) λhob=>?_;obtain⟨rb,rfl⟩:=hob;refine gD 0 rfl rfl<|go AH 1 [] (λ_=>Bj [1] Fy rfl (λ_ h=>.tail _ h)<|Ag rfl ?_ Aj);refine KA (p:=xnds1.length=nds1.len*6∧∀v∈xnds1,v.oneCell'=true) (λw f hM=>⟨Cj.len hM.f0,Cj.one' hM.f0⟩) λ⟨hxl,hx1⟩=>WN 0 0 rfl rfl MC rfl rfl rfl rfl rfl rfl hxl hx1 oM (λ_ _=>rfl) oM oM λands2 cnds2=>B5 (λw f=>Cj w f (vs.app nds1) (xs++xnds1)) (λw f hM=>Cj.app hM.f0 hM.f4) Cj.mono<|Rb (λw f=>AK w f (vs.app nds1) ands2 cnds2) AK.mono (λw f hM=>KX hM hM.f0)<|go AH 1 [] (λ_=>Bj [1] Fy rfl (λ_ h=>.tail _ h)<|Ag rfl ?_ Aj);refine D4 rfl rfl (eC Bq rfl rfl) (λw f hM=>AE _ t _ _ _ _ _ _)<|go AH 1 [] (λ_=>Bj [1] Fy rfl (λ_ h=>.tail _ h)<|Ag rfl ?_ Aj);exact go AH 2 [0] (y<|λ_=>Bj [1] Fy rfl (λ_ h=>.tail _ h)<|B4<|go AH 4 [] (λ_=>Bc (λw f hM=>AJ rfl (Ac rfl Bh hM.k0 rfl)) (λw f hM=>⟨(⟨41,t.ln,t.co,a.tx,0,(vs.app nds1)⟩,ands2,cnds2),f,(by simp[nV,Nd.app_len,N.one,N.cons,Nd.len,Nat.add_comm]),(by simp[CA,SP.need,Az,h3,h4,hn3,h5,h6,h7,h8,hn4,htv2,hnds1]),hM.exm,⟨hM.f0,tQ⟩⟩)));refine AA AH 7 [] (λ_=>Ag rfl ?_ Aj);refine Be rfl rfl (eC AO rfl rfl) (λw2 f2 he hE=>⟨rfl,_,f2,rfl,(by simp[CA,SP.need,Az,he,h3,h4,hn3,h5,h6,h7,h8]),hE⟩) λhn6=>?_
 cases hn6
 refine AA AH 3 [] (λ_=>Ag rfl ?_ Aj);refine go AH 2 [] (λ_=>Ax [0,1] rfl<|AA AH 9 [] (λ_=>Ag rfl ?_ Aj));refine Be rfl rfl (eC AO rfl rfl) (λw2 f2 he hE=>⟨rfl,_,f2,rfl,(by simp[CA,SP.need,Az,he,h3,h4,hn3,h5,h6,h7]),hE⟩) λhn7=>?_
 cases hn7
 have h9:=of_decide_eq_false h6;simp only[Fo.len] at h9;omega;refine Dp [0,1] Ap (rd [0,1,2,3,4,5,6] (.br 7 (rd [8,9,10,11,12] (.br 13 (rd [14,15,16,17,18,19,20,21,22] (.br 23 .fin .fin)) .fin)) .fin)) rfl kR<|AA AH 4 [1] (y<|λ_=>K3 41 rfl (λh10=>?_) (λh10=>?_));have h9:=of_decide_eq_true h10;omega;refine AA AH 3 [] (λ_=>Ag rfl ?_ Aj);refine go AH 2 [] (λ_=>Ax [0,1] rfl<|AA AH 5 [] (λ_=>Ag rfl ?_ Aj));refine go AH 2 [] (λ_=>Ax [0,1] rfl<|AA AH 9 [] (λ_=>Ag rfl ?_ Aj));refine Be rfl rfl (eC AO rfl rfl) (λw2 f2 he hE=>⟨rfl,_,f2,rfl,(by exact aZ (beq_iff_eq.1 h5) hne),hE⟩) λhn8=>?_
 cases hn8
 refine go AH 7 [] (λ_=>Ba 96 rfl rfl (λh11=>?_) (λh11=>?_));refine go AH 2 [] (λ_=>?_);rcases Fo.three r with ⟨a,ak,b,bk,c,ck,rfl⟩|hne
 refine B5 (λw f=>A9 w f la 0 (.cons a ak (.cons b bk (.cons c ck .nil)))) (λw f hM=>Bx.at hM.f3) A9.mono<|C6 (α:=Nat×Nat×Option Addr×Nat) (λx=>la=some ⟨x.1,x.2.1,none⟩) (λx=>[⟨x.1,x.2.1+0*6,J6 a x.2.2.1 ak.len x.2.2.2⟩]) (λx=>[λw f=>Bx w f ak x.2.2.1 x.2.2.2,λw f=>A9 w f la 1 (.cons b bk (.cons c ck .nil))]) (λw f hM=>let ⟨b,off,ka,kc,h1,h2,h3,h4⟩:=A9.head hM.f0;⟨(b,off,ka,kc),h1,(oE h2),A2.mem ⟨h3,h4,tQ⟩⟩) (λx=>Af.mem ⟨Bx.mono,A9.mono,tQ⟩) ?_;rintro⟨eb0,eo0,k0a,k0c⟩ rfl;refine C6 (α:=Nat×Nat×Option Addr×Nat) (λx=>(some (⟨eb0,eo0,none⟩:Addr))=some ⟨x.1,x.2.1,none⟩) (λx=>[⟨x.1,x.2.1+1*6,J6 b x.2.2.1 bk.len x.2.2.2⟩]) (λx=>[λw f=>Bx w f bk x.2.2.1 x.2.2.2,λw f=>A9 w f (some (⟨eb0,eo0,none⟩:Addr)) 2 (.cons c ck .nil)]) (λw f hM=>let ⟨b,off,ka,kc,h1,h2,h3,h4⟩:=A9.head hM.f1;⟨(b,off,ka,kc),h1,(oE h2),A2.mem ⟨h3,h4,tQ⟩⟩) (λx=>Af.mem ⟨Bx.mono,A9.mono,tQ⟩) ?_;rintro⟨eb1,eo1,k1a,k1c⟩ h44;obtain⟨rfl,rfl⟩:eb0=eb1∧eo0=eo1:=by cases h44;exact⟨rfl,rfl⟩
 refine C6 (α:=Nat×Nat×Option Addr×Nat) (λx=>(some (⟨eb0,eo0,none⟩:Addr))=some ⟨x.1,x.2.1,none⟩) (λx=>[⟨x.1,x.2.1+2*6,J6 c x.2.2.1 ck.len x.2.2.2⟩]) (λx=>[λw f=>Bx w f ck x.2.2.1 x.2.2.2,λw f=>A9 w f (some (⟨eb0,eo0,none⟩:Addr)) 3 .nil]) (λw f hM=>let ⟨b,off,ka,kc,h1,h2,h3,h4⟩:=A9.head hM.f1;⟨(b,off,ka,kc),h1,(oE h2),A2.mem ⟨h3,h4,tQ⟩⟩) (λx=>Af.mem ⟨Bx.mono,A9.mono,tQ⟩) ?_;rintro⟨eb2,eo2,k2a,k2c⟩ h44;obtain⟨rfl,rfl⟩:eb0=eb2∧eo0=eo2:=by cases h44;exact⟨rfl,rfl⟩
 refine Dp [0,1] Ap (rd [0,1,2,3,4,5,6] (.br 7 (.rd 8 (.br 9 .fin .fin)) .fin)) rfl kR<|AA AH 4 [1] (y<|λ_=>K3 101 rfl (λh12=>?_) (λh12=>?_));refine AA AH 3 [102,0] (And.intro (by first|(simp only[Fo.len];omega)|(dsimp only;omega)|omega)<|y2<|λ_=>Ag rfl ?_ Aj);refine D4 rfl rfl (eC Om rfl rfl) (λw f hM=>Ff _ (D5.gl hM.f12) a _ hall.1.1.1 hall.1.1.2)<|go AH 1 [] (λ_=>Ax [0,1] rfl<|AA AH 1 [] (λ_=>Ag rfl ?_ Aj));refine Be rfl rfl (eC AO rfl rfl) (λw2 f2 he hE=>⟨rfl,_,f2,rfl,(by simp[CA,SP.need,Az,he,h3,h4,hn3,h5,h11,h12]),hE⟩) λhn9=>go AH 1 [] (λ_=>Ax [0,1] rfl<|B4<|go AH 2 [] (λ_=>Dp [1] Ap (rd [0,1,2,3,4,5,6,7,8,10,11,12] (.br 9 (.br 13 (.br 14 (.br 15 (.br 16 .fin .fin) .fin) .fin) .fin) .fin)) rfl kR<|AA AH 12 [0,102,4,101,0,100,0] (y<|And.intro (by first|(simp only[Fo.len];omega)|(dsimp only;omega)|omega)<|y2<|And.intro (by first|(simp only[Fo.len];omega)|(dsimp only;omega)|omega)<|y2<|And.intro (by first|(simp only[Fo.len];omega)|(dsimp only;omega)|omega)<|y2<|λ_=>Ag rfl ?_ Aj)));refine Kx rfl rfl (eC KY rfl rfl) (λw f hM=>Ma n w f hM.vl hM.f12 b bk _ _ hall.2.1 hM.f2) (λ_=>⟨AK.mono,tQ⟩) (λe w2 f2 he hE=>⟨rfl,e,f2,rfl,(by simp[CA,SP.need,Az,he,h3,h4,hn3,h5,h11,h12,hn9]),hE⟩) ?_;rintro⟨nd1,and1,cnd1⟩ hnd1;dsimp only at hnd1 ⊢;refine go AH 1 [] (λ_=>Ax [1] rfl<|Ag rfl ?_ Aj);refine Kx rfl rfl (eC DC rfl rfl) (λw f hM=>ihx w f hM.vl hM.f13 c ck _ _ hall.2.2.1 hM.f1) (λ_=>⟨AK.mono,tQ⟩) (λe w2 f2 he hE=>⟨rfl,e,f2,rfl,(by simp[CA,SP.need,Az,he,h3,h4,hn3,h5,h11,h12,hn9,hnd1]),hE⟩) ?_;rintro⟨nd2,and2,cnd2⟩ hnd2;dsimp only at hnd2 ⊢;refine go AH 1 [] (λ_=>Ax [1] rfl<|Ag rfl ?_ Aj);refine go AH 2 [] (λb5=>λ_=>Ax [2] rfl<|Ag rfl ?_ Aj);refine Dn 0 rfl rfl<|B5 (λw f=>AK w f (nd1.cons (nd2.one)) (some ⟨b5,0,none⟩) 2) (λw f hM=>Cj.toF (Cj.cons' hM.f1 (Cj.cons' hM.f0 (show Cj _ _ .nil [] from rfl))) hM.b0 (Nat.le_refl _)) AK.mono<|D4 rfl rfl (eC Bq rfl rfl) (λw f hM=>AE _ t _ _ _ _ _ _)<|go AH 1 [] (λ_=>Bj [1] Fy rfl (λ_ h=>.tail _ h)<|Ag rfl ?_ Aj);exact go AH 2 [0] (y<|λ_=>Bj [1] Fy rfl (λ_ h=>.tail _ h)<|B4<|go AH 4 [] (λ_=>Bc (λw f hM=>AJ rfl (Ac rfl Bh hM.k0 rfl)) (λw f hM=>⟨(⟨43,t.ln,t.co,a.tx,0,(nd1.cons (nd2.one))⟩,(some ⟨b5,0,none⟩),2),f,rfl,(by simp[CA,SP.need,Az,h3,h4,hn3,h5,h11,h12,hn9,hnd1,hnd2]),hM.exm,⟨hM.f0,tQ⟩⟩)));simp[Fo.len] at h12;refine Dp [0,1] Ap (rd [0,1,2,3,4,5,6] (.br 7 (.rd 8 (.br 9 .fin .fin)) .fin)) rfl kR<|AA AH 4 [1] (y<|λ_=>K3 101 rfl (λh13=>?_) (λh13=>?_));exact absurd (by have h9:=beq_iff_eq.1 h13;omega) hne;refine AA AH 3 [] (λ_=>Ag rfl ?_ Aj);refine go AH 2 [] (λ_=>Ax [0,1] rfl<|AA AH 1 [] (λ_=>Ag rfl ?_ Aj));refine Be rfl rfl (eC AO rfl rfl) (λw2 f2 he hE=>⟨rfl,_,f2,rfl,(by exact bA (beq_iff_eq.1 h11) hne),hE⟩) λhn10=>?_
 cases hn10
 refine go AH 7 [] (λ_=>Ba 124 rfl rfl (λh14=>?_) (λh14=>?_));refine go AH 2 [] (λ_=>?_);rcases Fo.two r with ⟨a,ak,b,bk,rfl⟩|hne
 refine B5 (λw f=>A9 w f la 0 (.cons a ak (.cons b bk .nil))) (λw f hM=>Bx.at hM.f3) A9.mono<|C6 (α:=Nat×Nat×Option Addr×Nat) (λx=>la=some ⟨x.1,x.2.1,none⟩) (λx=>[⟨x.1,x.2.1+0*6,J6 a x.2.2.1 ak.len x.2.2.2⟩]) (λx=>[λw f=>Bx w f ak x.2.2.1 x.2.2.2,λw f=>A9 w f la 1 (.cons b bk .nil)]) (λw f hM=>let ⟨b,off,ka,kc,h1,h2,h3,h4⟩:=A9.head hM.f0;⟨(b,off,ka,kc),h1,(oE h2),A2.mem ⟨h3,h4,tQ⟩⟩) (λx=>Af.mem ⟨Bx.mono,A9.mono,tQ⟩) ?_;rintro⟨eb0,eo0,k0a,k0c⟩ rfl;refine C6 (α:=Nat×Nat×Option Addr×Nat) (λx=>(some (⟨eb0,eo0,none⟩:Addr))=some ⟨x.1,x.2.1,none⟩) (λx=>[⟨x.1,x.2.1+1*6,J6 b x.2.2.1 bk.len x.2.2.2⟩]) (λx=>[λw f=>Bx w f bk x.2.2.1 x.2.2.2,λw f=>A9 w f (some (⟨eb0,eo0,none⟩:Addr)) 2 .nil]) (λw f hM=>let ⟨b,off,ka,kc,h1,h2,h3,h4⟩:=A9.head hM.f1;⟨(b,off,ka,kc),h1,(oE h2),A2.mem ⟨h3,h4,tQ⟩⟩) (λx=>Af.mem ⟨Bx.mono,A9.mono,tQ⟩) ?_;rintro⟨eb1,eo1,k1a,k1c⟩ h44;obtain⟨rfl,rfl⟩:eb0=eb1∧eo0=eo1:=by cases h44;exact⟨rfl,rfl⟩
 refine Dp [0,1] Ap (rd [0,1,2,3,4,5,6] (.br 7 (.rd 8 (.br 9 .fin .fin)) .fin)) rfl kR<|AA AH 4 [1] (y<|λ_=>K3 129 rfl (λh15=>?_) (λh15=>?_));refine AA AH 3 [101,0] (And.intro (by first|(simp only[Fo.len];omega)|(dsimp only;omega)|omega)<|y2<|λ_=>Ag rfl ?_ Aj);refine D4 rfl rfl (eC Om rfl rfl) (λw f hM=>Ff _ (D5.gl hM.f10) a _ hall.1.1.1 hall.1.1.2)<|go AH 1 [] (λ_=>Ax [0,1] rfl<|AA AH 1 [] (λ_=>Ag rfl ?_ Aj));refine Be rfl rfl (eC AO rfl rfl) (λw2 f2 he hE=>⟨rfl,_,f2,rfl,(by simp[CA,SP.need,Az,he,h3,h4,hn3,h5,h11,h14,h15]),hE⟩) λhn11=>go AH 1 [] (λ_=>Ax [0,1] rfl<|B4<|go AH 2 [] (λ_=>Dp [1] Ap (rd [0,1,2,3,4,5,6,7,8] (.br 9 (.br 10 (.br 11 (.br 12 .fin .fin) .fin) .fin) .fin)) rfl kR<|AA AH 9 [0,101,4,100,0] (y<|And.intro (by first|(simp only[Fo.len];omega)|(dsimp only;omega)|omega)<|y2<|And.intro (by first|(simp only[Fo.len];omega)|(dsimp only;omega)|omega)<|y2<|λ_=>Ag rfl ?_ Aj)));refine Kx rfl rfl (eC DC rfl rfl) (λw f hM=>ihx w f hM.vl hM.f10 b bk _ _ hall.2.1 hM.f0) (λ_=>⟨AK.mono,tQ⟩) (λe w2 f2 he hE=>⟨rfl,e,f2,rfl,(by simp[CA,SP.need,Az,he,h3,h4,hn3,h5,h11,h14,h15,hn11]),hE⟩) ?_;rintro⟨nd3,and3,cnd3⟩ hnd3;dsimp only at hnd3 ⊢;refine go AH 1 [] (λ_=>Ax [1] rfl<|Ag rfl ?_ Aj);refine go AH 2 [] (λb6=>λ_=>Ax [2] rfl<|Ag rfl ?_ Aj);refine Dn 0 rfl rfl<|B5 (λw f=>AK w f (nd3.one) (some ⟨b6,0,none⟩) 1) (λw f hM=>Cj.toF (Cj.cons' hM.f0 (show Cj _ _ .nil [] from rfl)) hM.b0 (Nat.le_refl _)) AK.mono<|D4 rfl rfl (eC Bq rfl rfl) (λw f hM=>AE _ t _ _ _ _ _ _)<|go AH 1 [] (λ_=>Bj [1] Fy rfl (λ_ h=>.tail _ h)<|Ag rfl ?_ Aj);exact go AH 2 [0] (y<|λ_=>Bj [1] Fy rfl (λ_ h=>.tail _ h)<|B4<|go AH 4 [] (λ_=>Bc (λw f hM=>AJ rfl (Ac rfl Bh hM.k0 rfl)) (λw f hM=>⟨(⟨44,t.ln,t.co,a.tx,0,(nd3.one)⟩,(some ⟨b6,0,none⟩),1),f,rfl,(by simp[CA,SP.need,Az,h3,h4,hn3,h5,h11,h14,h15,hn11,hnd3]),hM.exm,⟨hM.f0,tQ⟩⟩)));simp[Fo.len] at h15;refine Dp [0,1] Ap (rd [0,1,2,3,4,5,6] (.br 7 (.rd 8 (.br 9 .fin .fin)) .fin)) rfl kR<|AA AH 4 [1] (y<|λ_=>K3 129 rfl (λEe=>?_) (λEe=>?_));exact absurd (by have h9:=beq_iff_eq.1 Ee;omega) hne;refine AA AH 3 [] (λ_=>Ag rfl ?_ Aj);refine go AH 2 [] (λ_=>Ax [0,1] rfl<|AA AH 1 [] (λ_=>Ag rfl ?_ Aj));refine Be rfl rfl (eC AO rfl rfl) (λw2 f2 he hE=>⟨rfl,_,f2,rfl,(by exact mD (beq_iff_eq.1 h14) hne),hE⟩) λhn12=>?_
 cases hn12
 refine go AH 7 [] (λ_=>Ba 148 rfl rfl (λh17=>?_) (λh17=>?_));refine go AH 2 [] (λ_=>?_);rcases Fo.two r with ⟨a,ak,b,bk,rfl⟩|hne
 refine B5 (λw f=>A9 w f la 0 (.cons a ak (.cons b bk .nil))) (λw f hM=>Bx.at hM.f3) A9.mono<|C6 (α:=Nat×Nat×Option Addr×Nat) (λx=>la=some ⟨x.1,x.2.1,none⟩) (λx=>[⟨x.1,x.2.1+0*6,J6 a x.2.2.1 ak.len x.2.2.2⟩]) (λx=>[λw f=>Bx w f ak x.2.2.1 x.2.2.2,λw f=>A9 w f la 1 (.cons b bk .nil)]) (λw f hM=>let ⟨b,off,ka,kc,h1,h2,h3,h4⟩:=A9.head hM.f0;⟨(b,off,ka,kc),h1,(oE h2),A2.mem ⟨h3,h4,tQ⟩⟩) (λx=>Af.mem ⟨Bx.mono,A9.mono,tQ⟩) ?_;rintro⟨eb0,eo0,k0a,k0c⟩ rfl;refine C6 (α:=Nat×Nat×Option Addr×Nat) (λx=>(some (⟨eb0,eo0,none⟩:Addr))=some ⟨x.1,x.2.1,none⟩) (λx=>[⟨x.1,x.2.1+1*6,J6 b x.2.2.1 bk.len x.2.2.2⟩]) (λx=>[λw f=>Bx w f bk x.2.2.1 x.2.2.2,λw f=>A9 w f (some (⟨eb0,eo0,none⟩:Addr)) 2 .nil]) (λw f hM=>let ⟨b,off,ka,kc,h1,h2,h3,h4⟩:=A9.head hM.f1;⟨(b,off,ka,kc),h1,(oE h2),A2.mem ⟨h3,h4,tQ⟩⟩) (λx=>Af.mem ⟨Bx.mono,A9.mono,tQ⟩) ?_;rintro⟨eb1,eo1,k1a,k1c⟩ h44;obtain⟨rfl,rfl⟩:eb0=eb1∧eo0=eo1:=by cases h44;exact⟨rfl,rfl⟩
 refine Dp [0,1] Ap (rd [0,1,2,3,4,5,6] (.br 7 (rd [8,9,10,11,12] (.br 13 (.rd 14 (.br 15 .fin .fin)) .fin)) .fin)) rfl kR<|AA AH 4 [1] (y<|λ_=>K3 153 rfl (λh18=>?_) (λh18=>?_));refine AA AH 3 [101,0] (And.intro (by first|(simp only[Fo.len];omega)|(dsimp only;omega)|omega)<|y2<|λ_=>Ag rfl ?_ Aj);refine D4 rfl rfl (eC Om rfl rfl) (λw f hM=>Ff _ (D5.gl hM.f10) a _ hall.1.1.1 hall.1.1.2)<|go AH 1 [] (λ_=>Ax [0,1] rfl<|AA AH 2 [] (λ_=>K3 159 rfl (λh19=>?_) (λh19=>?_)));refine AA AH 3 [100,0] (And.intro (by first|(simp only[Fo.len];omega)|(dsimp only;omega)|omega)<|y2<|λ_=>Ag rfl ?_ Aj);refine BA rfl rfl (eC ZD rfl rfl) (λw f hM=>Oq w f hM.vl b bk _ _ hM.f0) (λ_=>trivial) ?_;rintro⟨⟩ -;refine go AH 1 [] (λ_=>Ax [0,1] rfl<|AA AH 1 [] (λ_=>Ag rfl ?_ Aj));refine Be rfl rfl (eC AO rfl rfl) (λw2 f2 he hE=>⟨rfl,_,f2,rfl,(by simp[CA,SP.need,Az,he,h3,h4,hn3,h5,h11,h14,h17,h18,h19]),hE⟩) λhn13=>go AH 1 [] (λ_=>Ax [0,1] rfl<|B4<|go AH 2 [] (λ_=>Dp [1] Ap (rd [0,1,2,3,4,5,6,7,8] (.br 9 (.br 10 (.br 11 (.br 12 .fin .fin) .fin) .fin) .fin)) rfl kR<|AA AH 9 [0,101,4,100,0] (y<|And.intro (by first|(simp only[Fo.len];omega)|(dsimp only;omega)|omega)<|y2<|And.intro (by first|(simp only[Fo.len];omega)|(dsimp only;omega)|omega)<|y2<|λ_=>Ag rfl ?_ Aj)));refine Kx rfl rfl (eC DC rfl rfl) (λw f hM=>ihx w f hM.vl hM.f10 b bk _ _ hall.2.1 hM.f0) (λ_=>⟨AK.mono,tQ⟩) (λe w2 f2 he hE=>⟨rfl,e,f2,rfl,(by simp[CA,SP.need,Az,he,h3,h4,hn3,h5,h11,h14,h17,h18,h19,hn13]),hE⟩) ?_;rintro⟨nd4,and4,cnd4⟩ hnd4;dsimp only at hnd4 ⊢;refine go AH 1 [] (λ_=>Ax [1] rfl<|Ag rfl ?_ Aj);refine go AH 2 [] (λb7=>λ_=>Ax [2] rfl<|Ag rfl ?_ Aj);refine Dn 0 rfl rfl<|B5 (λw f=>AK w f (nd4.one) (some ⟨b7,0,none⟩) 1) (λw f hM=>Cj.toF (Cj.cons' hM.f0 (show Cj _ _ .nil [] from rfl)) hM.b0 (Nat.le_refl _)) AK.mono<|D4 rfl rfl (eC Bq rfl rfl) (λw f hM=>AE _ t _ _ _ _ _ _)<|go AH 1 [] (λ_=>Bj [1] Fy rfl (λ_ h=>.tail _ h)<|Ag rfl ?_ Aj);exact go AH 2 [0] (y<|λ_=>Bj [1] Fy rfl (λ_ h=>.tail _ h)<|B4<|go AH 4 [] (λ_=>Bc (λw f hM=>AJ rfl (Ac rfl Bh hM.k0 rfl)) (λw f hM=>⟨(⟨45,t.ln,t.co,a.tx,0,(nd4.one)⟩,(some ⟨b7,0,none⟩),1),f,rfl,(by simp[CA,SP.need,Az,h3,h4,hn3,h5,h11,h14,h17,h18,h19,hn13,hnd4]),hM.exm,⟨hM.f0,tQ⟩⟩)));refine AA AH 3 [] (λ_=>Ag rfl ?_ Aj);refine go AH 2 [] (λ_=>Ax [0,1] rfl<|AA AH 1 [] (λ_=>Ag rfl ?_ Aj));refine Be rfl rfl (eC AO rfl rfl) (λw2 f2 he hE=>⟨rfl,_,f2,rfl,(by simp[CA,SP.need,Az,he,h3,h4,hn3,h5,h11,h14,h17,h18,h19]),hE⟩) λhn14=>?_
 cases hn14
 simp[Fo.len] at h18;refine Dp [0,1] Ap (rd [0,1,2,3,4,5,6] (.br 7 (rd [8,9,10,11,12] (.br 13 (.rd 14 (.br 15 .fin .fin)) .fin)) .fin)) rfl kR<|AA AH 4 [1] (y<|λ_=>K3 153 rfl (λh20=>?_) (λh20=>?_));exact absurd (by have h9:=beq_iff_eq.1 h20;omega) hne;refine AA AH 3 [] (λ_=>Ag rfl ?_ Aj);refine go AH 2 [] (λ_=>Ax [0,1] rfl<|AA AH 5 [] (λ_=>Ag rfl ?_ Aj));refine go AH 2 [] (λ_=>Ax [0,1] rfl<|AA AH 1 [] (λ_=>Ag rfl ?_ Aj));refine Be rfl rfl (eC AO rfl rfl) (λw2 f2 he hE=>⟨rfl,_,f2,rfl,(by exact kW (beq_iff_eq.1 h17) hne),hE⟩) λhn15=>?_
 cases hn15
 refine go AH 7 [] (λ_=>Ba 178 rfl rfl (λh21=>?_) (λh21=>?_));refine go AH 2 [] (λ_=>?_);rcases Fo.single r with ⟨a,ak,rfl⟩|hne
 refine B5 (λw f=>A9 w f la 0 (.cons a ak .nil)) (λw f hM=>Bx.at hM.f3) A9.mono<|C6 (α:=Nat×Nat×Option Addr×Nat) (λx=>la=some ⟨x.1,x.2.1,none⟩) (λx=>[⟨x.1,x.2.1+0*6,J6 a x.2.2.1 ak.len x.2.2.2⟩]) (λx=>[λw f=>Bx w f ak x.2.2.1 x.2.2.2,λw f=>A9 w f la 1 .nil]) (λw f hM=>let ⟨b,off,ka,kc,h1,h2,h3,h4⟩:=A9.head hM.f0;⟨(b,off,ka,kc),h1,(oE h2),A2.mem ⟨h3,h4,tQ⟩⟩) (λx=>Af.mem ⟨Bx.mono,A9.mono,tQ⟩) ?_;rintro⟨eb0,eo0,k0a,k0c⟩ rfl;refine go AH 4 [1] (y<|λ_=>Be rfl rfl (eC AO rfl rfl) (λw2 f2 he hE=>⟨rfl,_,f2,rfl,(by simp[Fo.len] at he),hE⟩) λhn16=>go AH 3 [] (λ_=>Dp [1] Ap (rd [0,1,2,3] (.br 4 (.br 5 (.br 6 (.br 7 .fin .fin) .fin) .fin) .fin)) rfl kR<|AA AH 4 [0,100,0] (y<|And.intro (by first|(simp only[Fo.len];omega)|(dsimp only;omega)|omega)<|y2<|λ_=>Ag rfl ?_ Aj)));refine Kx rfl rfl (eC DC rfl rfl) (λw f hM=>ihx w f hM.vl hM.f8 a ak _ _ hall.1 hM.f0) (λ_=>⟨AK.mono,tQ⟩) (λe w2 f2 he hE=>⟨rfl,e,f2,rfl,(by simp[CA,SP.need,Az,he,h3,h4,hn3,h5,h11,h14,h17,h21,hn16]),hE⟩) ?_;rintro⟨nd5,and5,cnd5⟩ hnd5;dsimp only at hnd5 ⊢;refine go AH 1 [] (λ_=>Ax [1] rfl<|Ag rfl ?_ Aj);refine go AH 2 [] (λb8=>λ_=>Ax [2] rfl<|Ag rfl ?_ Aj);refine Dn 0 rfl rfl<|B5 (λw f=>AK w f (nd5.one) (some ⟨b8,0,none⟩) 1) (λw f hM=>Cj.toF (Cj.cons' hM.f0 (show Cj _ _ .nil [] from rfl)) hM.b0 (Nat.le_refl _)) AK.mono<|D4 rfl rfl (eC Bq rfl rfl) (λw f hM=>AE _ t _ _ _ _ _ _)<|go AH 1 [] (λ_=>Bj [1] Fy rfl (λ_ h=>.tail _ h)<|Ag rfl ?_ Aj);exact go AH 2 [0] (y<|λ_=>Bj [1] Fy rfl (λ_ h=>.tail _ h)<|B4<|go AH 4 [] (λ_=>Bc (λw f hM=>AJ rfl (Ac rfl Bh hM.k0 rfl)) (λw f hM=>⟨(⟨46,t.ln,t.co,[],0,(nd5.one)⟩,(some ⟨b8,0,none⟩),1),f,rfl,(by simp[CA,SP.need,Az,h3,h4,hn3,h5,h11,h14,h17,h21,hn16,hnd5]),hM.exm,⟨hM.f0,tQ⟩⟩)));exact go AH 4 [1] (y<|λ_=>Be rfl rfl (eC AO rfl rfl) (λw2 f2 he hE=>⟨rfl,_,f2,rfl,(by exact nY (beq_iff_eq.1 h21) hne),hE⟩) λhn17=>absurd (by have h9:=beq_iff_eq.1 hn17;omega) hne);exact go AH 7 [1] (y<|λ_=>jN rfl rfl (eC TV rfl rfl) (pe:=λe=>e=(t.ln,t.co)) (T:=42) (λw f hM=>(Jh w t _).mono (λ_ _ h=>h.elim) λ_ w2 ⟨h1,h2⟩=>⟨_,f,h1,rfl,CR.of_ext h2 hM.vl⟩) (λe w2 f2 he hE=>by subst he;exact⟨rfl,_,f2,rfl,(by exact TN h5 h11 h14 h17 h21),hE⟩));have h9:=of_decide_eq_false h4;simp only[Fo.len] at h9;omega;refine AA AH 10 [] (λ_=>Ag rfl ?_ Aj);refine go AH 2 [] (λ_=>Ax [0,1] rfl<|AA AH 1 [] (λ_=>Ag rfl ?_ Aj));refine Be rfl rfl (eC AO rfl rfl) (λw2 f2 he hE=>⟨rfl,_,f2,rfl,(by simp[CA,SP.need,Az,he,h3]),hE⟩) λhn18=>?_
 cases hn18
end Go.Proofs.YtegedalegfadgaaGreatDoor
namespace Go.SP
open Go.SW Go.RowKit
theorem B9(n:Int):(T1.var n).bnd:=⟨⟨Nat.zero_le _,Nat.zero_le _⟩,tQ⟩
theorem Dj{tx:lU}(h:tx.length≤1000000):(c0 tx).bnd:=⟨⟨Nat.zero_le _,h⟩,tQ⟩
theorem D7{tx:lU}{k:Ty}(h:tx.length≤1000000)(hk:k.len≤200000)(hb:k.bnd):(T1.con tx k).bnd:=⟨⟨hk,h⟩,hb⟩
theorem Ty.bnd_app:∀{x y:Ty},x.bnd→y.bnd→(x.app y).bnd
 |.nil,_,_,h=>h
 |.var _ r,_,h,hy=>Ty.bnd_app (x:=r) h hy
 |.con _ _ r,_,h,hy=>⟨h.1,h.2.1,Ty.bnd_app (x:=r) h.2.2 hy⟩
theorem Ty.bnd_snoc{x:Ty}{t:T1}(h:x.bnd)(ht:t.bnd):(x.snoc t).bnd:=Ty.bnd_app h (GO ht)
def rR(P:Program)(fid:FuncId)(TE T TS:TypeId)(n:Nat):Prop:=∀(w:World)(f:Fq)(_:Vl w f)(A:Ad)(_:A.ok)(s:CS)(_:Au T TS A s w f)(_:∀b,BE A b→f b=0)(_:DZ s)(op ln co nm:Int)(tx:lU)(kids:Nd)(na:Option Addr)(nc:Nat)(e:Bt)(ea:Option Addr),
 kids.size<n→kids.size≤200000→AK w f kids na nc→Gt e→AQ w f e ea→s.fresh+200001*(kids.size+1)≤800000000000 →
 BS P fid #[.pointer (some ⟨A.cb,0,none⟩),nV op ln co tx nm kids na nc,.pointer ea] w (Fv (α:=(T1×Option Addr×Nat)×(Bt×Option Addr)×CS) (λx=>.tuple #[tV x.1.1 x.1.2.1 x.1.2.2,.pointer x.2.1.2]) (λx=>CF n s e op ln co tx nm kids=.ok (x.1.1,x.2.1.1,x.2.2)∧x.1.1.bnd∧Gt x.2.1.1∧DZ x.2.2∧x.2.2.fresh≤s.fresh+200001*(kids.size+1)) (BE A) (λx=>Au T TS A x.2.2) (λx=>[λw f=>Ah w f x.1.1.kids x.1.2.1 x.1.2.2,λw f=>AQ w f x.2.1.1 x.2.1.2]) w f)
   (PanE TE (BE A) (λer=>CF n s e op ln co tx nm kids=.error er) w f)
variable {e5:Bt}{s5:CS}{co ln nm:Int}{ar:Ty}
theorem US{p:Nr}{s s6:CS}{e:Bt}{op:Int}{tx:lU}{k r:Nd}{t q:T1}(h:p s e op ln co tx nm k=.ok (q,e5,s5))(h2:FJ s5 t q ln co=.ok s6):HV p s e (t.cons ar) (.cons op ln co tx nm k r)=HV p s6 e5 ar r:=by
 rw[HV,h];simp only;rw[T1.hd_cons,h2];simp only;rw[T1.tl_cons]
theorem Rm{p:Nr}{s:CS}{e:Bt}{k:Nd}:GK p s e k=(match GK p s e k with|.error x=>.error x|.ok (l,e3,s3)=>.ok (Ty.nil.app l,e3,s3)):=by
 cases GK p s e k with
 |error x=>rfl
 |ok q=>rfl
theorem UW{p:Nr}{s:CS}{e:Bt}{op:Int}{tx:lU}{k r:Nd}{d:Ty}{q:T1}(h:p s e op ln co tx nm k=.ok (q,e5,s5)) :
   (match GK p s e (.cons op ln co tx nm k r) with|.error x=>.error x|.ok (l,e3,s3)=>.ok (d.app l,e3,s3):RI (Ty×Bt×CS))=(match GK p s5 e5 r with|.error x=>.error x|.ok (l,e3,s3)=>.ok ((d.snoc q).app l,e3,s3)):=by
 rw[GK,h];simp only
 cases GK p s5 e5 r with
 |error x=>rfl
 |ok z=>obtain⟨l,e3,s3⟩:=z;simp only[Ty.snoc_app]
end Go.SP
namespace Go.SW
open Go.RowKit
def Xy:List Oper→Bool
 | []=>true
 |o::l=>(match o.op with|.defer _=>false|_=>true)&&Xy l
abbrev GF(ro:Option Nat):Fence:={Fence.wide with round:=ro}
section
variable{P:Program}{n:Nat}{Q:Bm}{σ:Br}{ds:List Deferred}{w:World}
variable {fn:Func}{l vs:List Value}{i m:Nat}{ro:Option Nat}{w':World}
theorem X6{o:Oper}{a:Act}{next next':Act→World→Prop}{Q:Exit→Act→World→Prop}(hn:∀a w,next a w→next' a w):∀r:Result Next,o.upon P a next Q r→o.uponIn (GF ro) m P a next' Q r
 |.ok (.value _) _,h=>hn _ _ h
 |.ok .skip _,h=>hn _ _ h
 |.ok (.defer _) _,h=>hn _ _ h
 |.ok (.enter f args) w',h=>by
   refine⟨λe=>(by cases e),?_⟩
   have h2:Calls P f args w' _:=Calls.mono (R':=λe w''=>match e,w'' with|.returned v,w''=>next' (a.put o.dst v) w'' | .panicked chain,w''=>Q (.panic chain) a w'' | .outgrown,_=>LetsOut Q) h λe w'' hr=>by
     cases e with
     |returned v=>exact hn _ _ hr
     |panicked c=>exact hr
     |outgrown=>exact hr
   exact (callsIn_wide (n:=m-1)).2 h2
 |.ok (.row row args) w',h=>⟨λe=>(by cases e),λc cs _=>let ⟨v,w2,hr,hs⟩:=h c cs;⟨v,w2,hn _ _ hr,stepsIn_wide.2 hs⟩⟩
 |.halt (.panic _) _,h=>h
theorem Mh{ops:Array Oper}{Q:Exit→Act→World→Prop}(hQ:¬LetsOut Q):∀(l:List Oper)(a:Act)(w:World),Xy l=true→wpList P ops Q l a w→wpListIn (GF ro) m P ops Q l a w
 | [],_,_,_,h=>h
 |o::l,a,w,hd,h=>by
   unfold Xy at hd;simp only[Bool.and_eq_true] at hd;have hnd:∀c,o.op≠.defer c:=λc e=>by rw[e] at hd;exact absurd hd.1 (by simp)
   unfold wpList at h;unfold wpListIn
   split
   · rename_i hw
     rw[if_pos hw] at h;rcases h with h|h
     · refine⟨λ_ _=>trivial,?_⟩
       rw[Oper.semAt_eq _ _ _ hnd];exact X6 (λa w=>Mh hQ l a w hd.2) _ h
     · exact absurd h.2 hQ
   · rename_i hw
     rw[if_neg hw] at h;exact⟨λ_ _=>trivial,Mh hQ l _ w hd.2 h⟩
theorem fK{l:List Oper}{a:Act}(hl:Xy l=true)(hn:¬LetsOut (Q.up n))(ha:St n σ ds a)(h:HJ P n l.toArray Q l σ ds w):(Code.region i l.toArray false).wpIn (GF ro) m P (Q.up n) a w :=
 wpIn_region_lit (Mh hn l a w hl (h a ha))
theorem YL:¬LetsOut (Q.up n):=λh=>by
 obtain⟨a,w,h⟩:=h;exact h
def Xf(P:Program)(n:Nat)(ops:Array Oper)(Q:Bm)(l:List Oper)(σ:Br)(ds:List Deferred)(w:World):Prop :=
 ∀a,St n σ ds a→wpListIn Fence.wide 3 P ops (Q.up n) l a w
theorem XF{l:List Oper}(h:Xf P n l.toArray Q l σ ds w):Ic P n (.region i l.toArray false) Q σ ds w:=λa ha=>wpIn_wide.1 (wpIn_region_lit (h a ha))
variable{ops:Array Oper}{op:Op}{ty:TypeId}{pos:String}{af:Array Edge}{rest:List Oper}{d:Nat}
theorem S4(h:Q.q .normal σ ds w):Xf P n ops Q [] σ ds w:=λ_ ha=>wpListIn_nil ⟨σ,ds,ha,h⟩
theorem Gz{v:Value}(hd:Nat.blt d n=true)(hr:AS P σ op ty w v w')(h:Xf P n ops Q rest (AL σ d v) ds w') :
   Xf P n ops Q (⟨some d,op,ty,pos,af,none⟩::rest) σ ds w:=λa ha =>
 wpListIn_plain rfl λK hK=>⟨λ_ _=>trivial,by
   show Oper.uponIn _ _ _ _ _ _ _ ((Oper.semAt none _ _).run P w);rw[Oper.semAt_none,hr a.eval _ _ _ _ ha.ev];exact hK _ _ (h _ (ha.put hd v))⟩
theorem Tx{l0:Nat}{g:Operand}{args:List Operand}{ts:Array TypeId}{R:Ending→World→Prop}(hd:Nat.blt d n=true)(hg:ev σ g=some (.func (.yield l0) #[] #[]))(ha:Jr σ args=some vs)(hy:YieldAt Fence.wide m P l0 vs.toArray w R)
   (h:∀e w',R e w'→∃v,e=.returned v∧Xf P n ops Q rest (AL σ d v) ds w'):Xf P n ops Q (⟨some d,.call {callee:=.value g,args:=args.toArray,argTypes:=ts},ty,pos,af,none⟩::rest) σ ds w:=λa hs =>
 wpListIn_plain rfl λK hK=>⟨λ_ _=>trivial,by
   obtain⟨fn,tmps,assign,body,h1,h2⟩:=hy;have h3:=EY hs.ev ha
   have he:(execOp a.eval ⟨some d,.call {callee:=.value g,args:=args.toArray,argTypes:=ts},ty,pos,af,none⟩).run P w=.ok (.round l0 fn tmps assign body) w:=by
     simp[execOp,resolve,hs.ev _ _ hg,Deferred.ofValue,invoke,h3,h1]
   show Oper.uponIn _ _ _ _ _ _ _ ((Oper.semAt none _ _).run P w);rw[Oper.semAt_none,he];refine⟨λe=>(by cases e),h2.1,λc cs _=>?_⟩;obtain⟨e,w',hr,hc⟩:=h2.2 c cs (room_wide _);obtain⟨v,rfl,hv⟩:=h e w' hr;exact⟨.returned v,w',hK _ _ (hv _ (hs.put hd v)),hc⟩⟩
def Vx(P:Program)(fn:Func)(R:Value→World→Prop):Bm :=
 {q:=λe σ ds w=>match e with|.normal|.ret=>∃D,ds=[{target:=.collected D,args:=#[]}]∧w.heap[D]?=some (.deferred (some []))∧∃v,VN P fn σ (w.putObj D (.deferred none)) v∧R v (w.putObj D (.deferred none))|_=>False,p:=λ_ _ _ _=>False}
theorem nD{f:FuncId}{c:Code}{R:Value→World→Prop}(hf:P.funcs[f]?=some fn)(hb:fn.body=some c)
   (hn:fn.ntmps=n) (hl:Nat.ble l.length n=true) (h:Ic P n c (Vx P fn R) (I6 l 0) [] w):BC P f l.toArray w R:=by
 refine (callsIn_wide (n:=3)).1 (callsIn_of_wp_marks hf hb tQ (wpIn_wide.2 ?_));have h1:=h _ (JM hl);rw[← hn] at h1;intro b k cs;obtain⟨e,a',w',hq,harr⟩:=h1 b k cs;refine⟨e,a',w',?_,harr⟩
 have key:∀σ ds,St fn.ntmps σ ds a'→(∃D,ds=[{target:=.collected D,args:=#[]}]∧w'.heap[D]?=some (.deferred (some []))∧∃v,VN P fn σ (w'.putObj D (.deferred none)) v∧R v (w'.putObj D (.deferred none)))→LeavesInM Fence.wide 3 P fn a'.tmps (λe w'=>∃v,e=.returned v∧R v w') a'.defers .returning w':=λσ ds hs ⟨D,hD,hw,v,hv,hR⟩=>by
   rw[hs.defs,hD];exact⟨by simp,.inl ⟨D,_,rfl,run_takeDeferred hw,v,hv a'.tmps hs.val,v,rfl,hR⟩⟩
 cases e with
 |normal=>obtain⟨σ,ds,hs,h2⟩:=hq;exact key σ ds hs h2
 |ret=>obtain⟨σ,ds,hs,h2⟩:=hq;exact key σ ds hs h2
 |exit i=>obtain⟨σ,ds,hs,h2⟩:=hq;exact h2.elim
 |goto i=>obtain⟨σ,ds,hs,h2⟩:=hq;exact h2.elim
 |panic c=>obtain⟨σ,ds,hs,h2⟩:=hq;exact h2.elim
 |outgrown=>exact hq.elim
end
variable {X:Cx}{f:Fq}{fn:Func}{fid:FuncId}{Fs:List (World→Fq→Prop)}{B:List FB}{H:List HB}{l:List Value}{R0:Value→World→Prop}
theorem sO{P:Program}{n:Nat}{R:List RB}{c:Code}{w:World}(hf:P.funcs[fid]?=some fn)(hb:fn.body=some c)(hn:fn.ntmps=n)(hl:Nat.ble l.length n=true)(hM:AW X w f H R B Fs)
   (h:AF P n (Vx P fn R0) [] X R B Fs (.code c) [] (I6 l 0) H):BC P fid l.toArray w R0:=nD hf hb hn hl (h w f hM)
end Go.SW
namespace Go.SP
open Go.SW Go.RowKit
def Ty.list:Ty→List T1
 |.nil=>[]
 |.var n r=>.var n::r.list
 |.con tx k r=>.con tx k::r.list
theorem Ty.list_cons(t:T1)(r:Ty):(t.cons r).list=t::r.list:=by cases t <;> rfl
theorem Ty.list_len:∀k:Ty,k.list.length=k.len
 |.nil=>rfl
 |.var _ r=>congrArg (· + 1) (Ty.list_len r)
 |.con _ _ r=>congrArg (· + 1) (Ty.list_len r)
theorem Ty.list_get:∀(k:Ty)(i:Nat),k.list[i]?=k.get i
 |.nil,_=>by simp[Ty.list,Ty.get]
 |.var _ _,0=>rfl
 |.con _ _ _,0=>rfl
 |.var _ r,i+1=>by simpa[Ty.list,Ty.get] using Ty.list_get r i
 |.con _ _ r,i+1=>by simpa[Ty.list,Ty.get] using Ty.list_get r i
def gO(t:T1)(l:List T1):T1:=l.foldl (λt x=>.con Dv (x.cons t.one)) t
theorem Sr(t:T1)(l:List T1)(x:T1):gO t (l++[x])=.con Dv (x.cons (gO t l).one):=by simp[gO]
theorem NT(t u:T1)(r:Ty):HO (t.cons (u.cons r))=.con Dv (t.cons (HO (u.cons r)).one):=by cases t <;> cases u <;> rfl
theorem Ql(t:T1):HO t.one=t:=by cases t <;> rfl
theorem cB:∀(n:Nat)(k:Ty)(t:T1),k.len=n+1→k.get n=some t→gO t (k.list.take n).reverse=HO k:=by
 intro n
 induction n with
 |zero =>
   intro k t hl hg;obtain⟨u,r,rfl⟩:=Ty.cases1 k oM;rw[T1.len_cons] at hl;obtain rfl:=Ty.len0 (k:=r) oM;have:u=t:=by cases u <;> (simp[T1.cons,Ty.get] at hg;exact hg)
   subst this;rw[show (List.take 0 (u.cons Ty.nil).list).reverse=[] by simp];exact (Ql u).symm
 |succ n ih =>
   intro k t hl hg;obtain⟨u,r,rfl⟩:=Ty.cases1 k oM;rw[T1.len_cons] at hl;have hg2:r.get n=some t:=by cases u <;> exact hg
   have h:=ih r t oM hg2;obtain⟨v,r,rfl⟩:=Ty.cases1 r oM;rw[NT,Ty.list_cons,List.take_succ_cons,List.reverse_cons,Sr,h]
abbrev nW(w:World)(f:Fq)(k:Ty):={x:Nat×T1×Option Addr×Nat // k.get x.1=some x.2.1∧Ah w f x.2.1.kids x.2.2.1 x.2.2.2}
def pR{w:World}{f:Fq}{k:Ty}(x:nW w f k):Array Value:=#[.int .i64 (x.1.1:Int),tV x.1.2.1 x.1.2.2.1 x.1.2.2.2]
def aP{w:World}{f:Fq}{k:Ty}(l:List (nW w f k)):List T1:=l.map λx=>x.1.2.1
def mC(n0 b3:Nat)(W W':World):Prop:=∀k,k<n0→k≠b3→W'.heap[k]?=W.heap[k]?
def iv(i:Nat):Int:=(i:Int)-1
theorem cY(i:Nat):iv (i+1)=(i:Int):=by unfold iv;omega
def nrm(n0:Nat)(V:World)(f:Fq):Fq:=λb=>if b<n0 then f b else if (match V.heap[b]? with|some o=>o.isCells|none=>false) then f b else 0
variable {σ:Br}{l:List Value}{b cap i k n0 off:Nat}{M:Nat→Prop}{hi x:Operand}{P:Program}{T e ty:TypeId}
theorem Cs.nrm{V:World}{f:Fq}(h:Cs V f b off l):Cs V (nrm n0 V f) b off l:=λj v hj=>by
 obtain⟨h1,h2⟩:=h j v hj;refine⟨?_,h2⟩;obtain⟨o,ho,hc⟩:=cells_of_cell h2;unfold SP.nrm
 split
 · exact h1
 · simp only at ho
   rw[ho];simp only;rw[if_pos hc];exact h1
theorem J0.nrm{V:World}{f:Fq}:∀(k:Ty)(b off:Nat),J0 V f k b off→J0 V (nrm n0 V f) k b off
 |.nil,_,_,_=>trivial
 |.var _ r,b,off,⟨⟨a,c,h⟩,h2⟩=>⟨⟨a,c,Cs.nrm h⟩,J0.nrm r b _ h2⟩
 |.con _ k r,b,off,⟨⟨a,c,h,hl,hk⟩,h2⟩=>⟨⟨a,c,Cs.nrm h,hl,hk.imp id λ⟨b',off',e,hk⟩=>⟨b',off',e,J0.nrm k b' off' hk⟩⟩,J0.nrm r b _ h2⟩
theorem Ah.nrm{V:World}{f:Fq}{k:Ty}{a:Option Addr}{c:Nat}(h:Ah V f k a c):Ah V (nrm n0 V f) k a c:=⟨h.1,h.2.imp id λ⟨b,off,e,hk⟩=>⟨b,off,e,J0.nrm k b off hk⟩⟩
theorem dI{V:World}{f:Fq}(h:b<n0):nrm n0 V f b=f b:=if_pos h
theorem J8{V:World}{f:Fq}(h:f b=0):nrm n0 V f b=0:=by
 unfold nrm;simp[h]
structure T5(w:World)(f:Fq)(b2 b3:Nat)(z:List Value)(TT:TypeId)(t:T1)(V:World)(f2:Fq)(a:Option Addr)(c:Nat):Prop where
 exm:CR (λ_=>False) w f V f2
 k3:AT V b3 (tC t a c) TT
 k2:AT V b2 z TT
 ty:Ah V f2 t.kids a c
 bnd:t.bnd
 z3:f2 b3=0∧f2 b2=0
 hz:∀r o,V.heap[r]?=some o→o.isCells=false→w.heap.size≤r→f2 r=0
theorem VI{w V:World}{f f2:Fq}(h:CR M w f V f2):CR M w f V (nrm w.heap.size V f2):=⟨h.stp,λb hb=>(dI hb).trans (h.old b hb),λb hb=>J8 (h.val b hb)⟩
theorem Y0{w V:World}{f2:Fq}:∀r o,V.heap[r]?=some o→o.isCells=false→w.heap.size≤r→nrm w.heap.size V f2 r=0:=λr o ho hc hr=>by
 unfold nrm;rw[if_neg (by omega),ho];simp[hc]
theorem CR.trans0{w V V':World}{f f2 f3:Fq}(h:CR (λ_=>False) w f V f2)(h2:CR M V f2 V' f3)(hM:∀b,M b→w.heap.size≤b):CR (λ_=>False) w f V' f3 :=
 ⟨⟨h2.stp.os.trans h.stp.os,h2.stp.tape.trans h.stp.tape,h2.stp.output.trans h.stp.output,Nat.le_trans h.stp.size h2.stp.size,λk hk _=>(h2.stp.block k (Nat.lt_of_lt_of_le hk h.stp.size) (λhm=>by have:=hM k hm;omega)).trans (h.stp.block k hk (λh=>h))⟩,
   λb hb=>(h2.old b (Nat.lt_of_lt_of_le hb h.stp.size)).trans (h.old b hb),h2.val⟩
section
variable{w V V':World}{f f2 f3:Fq}{b2 b3:Nat}{z:List Value}{TT:TypeId}{t t':T1}{a a':Option Addr}{c c':Nat}
theorem T5.step(h:T5 w f b2 b3 z TT t V f2 a c)(h3:w.heap.size≤b3)(hne:b2≠b3)(hE:CR (λb=>b=b3) V f2 V' f3)(hb:AT V' b3 (tC t' a' c') TT)(hT:Ah V' f3 t'.kids a' c')(hbd:t'.bnd):T5 w f b2 b3 z TT t' V' (nrm w.heap.size V' f3) a' c' where
 exm:=VI (CR.trans0 h.exm hE λb e=>e▸h3)
 k3:=hb
 k2:=(hE.stp.block b2 h.k2.lt hne).trans h.k2
 ty:=Ah.nrm hT
 bnd:=hbd
 z3:=⟨J8 ((hE.old _ h.k3.lt).trans h.z3.1),J8 ((hE.old _ h.k2.lt).trans h.z3.2)⟩
 hz:=Y0
theorem I4(h:AT V b l T){o:Obj}(ho:V.heap[b]?=some o)(hc:o.isCells=false):False:=by
 have h':V.heap[b]?=some (.cells l.toArray T):=h;rw[h'] at ho;cases ho;cases hc
theorem T5.own{B:Nat}(hB:w.heap.size≤B){row:Option Nat}(h:T5 w f b2 b3 z TT t V f2 a c)(hg:V.grownBy V' row)(hr:∀r,row=some r→B≤r∧∃o:Obj,V.heap[r]?=some o∧o.isCells=false):T5 w f b2 b3 z TT t V' f2 a c:=by
 have hne:∀{b:Nat}{l:List Value}{T:TypeId},AT V b l T→some b≠row:=λhb e=>by
   obtain⟨_,o,ho,hc⟩:=hr _ e.symm;exact I4 hb ho hc
 have hfr:∀r,row=some r→f2 r=0:=λr e=>by
   obtain⟨h1,o,ho,hc⟩:=hr r e;exact h.hz r o ho hc oM
 have hF:J1 V f2 V' f2:=λb=>⟨Nat.le_refl _,λk hk=>by
   have hlt:b<V.heap.size:=by
     rcases Nat.lt_or_ge b V.heap.size with hh|hh
     · exact hh
     · have:=h.exm.val b hh;omega
   refine E0 (hg.block b hlt λe=>?_) k;have:=hfr b e.symm;omega⟩
 exact {exm:=⟨⟨hg.os.trans h.exm.stp.os,hg.tape.trans h.exm.stp.tape,hg.output.trans h.exm.stp.output,Nat.le_trans h.exm.stp.size hg.size,λk hk hm=>(hg.block k (Nat.lt_of_lt_of_le hk h.exm.stp.size) (λe=>by have:=(hr k e.symm).1;omega)).trans (h.exm.stp.block k hk hm)⟩,h.exm.old,λb hb=>h.exm.val b (Nat.le_trans hg.size hb)⟩,
         k3:=(hg.block _ h.k3.lt (hne h.k3)).trans h.k3,
         k2:=(hg.block _ h.k2.lt (hne h.k2)).trans h.k2,
         ty:=Ah.mono _ _ _ _ h.ty hF,
         bnd:=h.bnd,z3:=h.z3,
         hz:=λr o ho hc hw=>by
           rcases Nat.lt_or_ge r V.heap.size with hh|hh
           · by_cases e:some r=row
             · exact hfr r e.symm
             · rw[hg.block r hh e] at ho;exact h.hz r o ho hc hw
           · exact h.exm.val r hh}
end
theorem KeepsFrom.of_exm{B b3:Nat}{V V':World}{f2 f3:Fq}(hE:CR (λb=>b=b3) V f2 V' f3)(hb:AT V b3 l T):KeepsFrom B V V' :=
 ⟨hE.stp.size,λk o _ ho hc=>(hE.stp.block k (Array.getElem?_eq_some_iff.1 ho).1 (λe=>by subst e;exact I4 hb ho hc)).trans ho⟩
theorem mC.of_exm{b3:Nat}{V V':World}{f2 f3:Fq}(hE:CR (λb=>b=b3) V f2 V' f3)(hn:n0≤V.heap.size):mC n0 b3 V V':=λk hk hne=>hE.stp.block k oM hne
theorem ZW{w:World}{f:Fq}{x t:T1}{xa ta:Option Addr}{xc tc:Nat}(h:Cs w f b 0 (tC x xa xc++tC t ta tc))(hx:Ah w f x.kids xa xc)(ht:Ah w f t.kids ta tc):Ah w f (x.cons t.one) (some ⟨b,0,none⟩) 2:=by
 have h1:Bo w f Ty.nil []:=rfl;have h2:=Bo.snoc (t:=t) ht (Bo.snoc (t:=x) hx h1)
 have e:(Ty.nil.snoc x).snoc t=x.cons t.one:=by
   show (x.one).app t.one=_;rw[T1.one_app]
 rw[e] at h2;exact Bo.toF h2 h (by simp[T1.len_cons,T1.one,Ty.len])
theorem T5.frz{w V:World}{f f2:Fq}{b2 b3 b5:Nat}{z:List Value}{TT:TypeId}{t:T1}{a:Option Addr}{c:Nat}(h:T5 w f b2 b3 z TT t V f2 a c)(h5:AT V b5 l T)(hn2:b5≠b2)(hn3:b5≠b3)(hw:w.heap.size≤b5) :
   T5 w f b2 b3 z TT t V (λb=>if b=b5 then max l.length (f2 b) else f2 b) a c∧Cs V (λb=>if b=b5 then max l.length (f2 b) else f2 b) b5 0 l:=by
 have hF:J1 V f2 V (λb=>if b=b5 then max l.length (f2 b) else f2 b):=λb=>⟨by simp only;split <;> omega,λ_ _=>rfl⟩
 refine⟨{exm:=⟨h.exm.stp,λb hb=>by rw[if_neg (by omega)];exact h.exm.old b hb,λb hb=>by have:=h5.lt;rw[if_neg (by omega)];exact h.exm.val b hb⟩,
           k3:=h.k3,k2:=h.k2,ty:=Ah.mono _ _ _ _ h.ty hF,bnd:=h.bnd,z3:=by rw[if_neg (Ne.symm hn3),if_neg (Ne.symm hn2)];exact h.z3,
           hz:=λr o ho hc hw=>by
             rw[if_neg (λe=>by subst e;exact I4 h5 ho hc)];exact h.hz r o ho hc hw},λj v hj=>?_⟩
 have hlt:j<l.length:=(List.getElem?_eq_some_iff.1 hj).1;refine⟨by simp only[if_true];omega,?_⟩;have h5':V.heap[b5]?=some (.cells l.toArray T):=h5;simp[World.cell?,h5',hj]
theorem Rq{w:World}{z:Int}{k1:IntKind}{a:Option Addr}{len:Nat}(hz:z=(i:Int))(hx:ev σ x=some (.slice a len cap))(hhi:ev σ hi=some (.int k1 z))(hs:Kg P T=some (e,k))(hle:i≤cap):AS P σ (.slice T x none (some hi) none) ty w (.slice a i cap) w:=by
 subst hz;exact Wb hx hhi hs hle
theorem T5.fin{w V V':World}{f f2:Fq}{b2 b3 D:Nat}{z:List Value}{TT:TypeId}{t:T1}{a:Option Addr}{c:Nat}(h:T5 w f b2 b3 z TT t V f2 a c)(h2:w.heap.size≤b2)(hD:w.heap.size≤D)(hK:V.heap[D]?=some (.deferred (some [])))(hC:Hh b2 V V') :
   CR (λ_=>False) w f (V'.putObj D (.deferred none)) f2∧Ah (V'.putObj D (.deferred none)) f2 t.kids a c∧V'.heap[D]?=some (.deferred (some []))∧D≠b2:=by
 have hne:D≠b2:=λe=>by subst e;exact I4 h.k2 hK rfl
 have hf:f2 D=0:=h.hz D _ hK rfl hD;have hblk:∀j,j≠D→j≠b2→(V'.putObj D (.deferred none)).heap[j]?=V.heap[j]?:=λj h1 h3=>(World.putObj_heap_other h1).trans (hC.block j h3);have hsz:(V'.putObj D (.deferred none)).heap.size=V.heap.size:=by rw[World.putObj_size,hC.size]
 refine⟨⟨⟨hC.os.trans h.exm.stp.os,hC.tape.trans h.exm.stp.tape,hC.output.trans h.exm.stp.output,by rw[hsz];exact h.exm.stp.size,λj hj hm=>(hblk j oM oM).trans (h.exm.stp.block j hj hm)⟩,h.exm.old,λb hb=>h.exm.val b (by rw[hsz] at hb;exact hb)⟩,?_,(hC.block D hne).trans hK,hne⟩;refine Ah.mono _ _ _ _ h.ty λb=>⟨Nat.le_refl _,λq hq=>E0 (hblk b (λe=>?_) (λe=>?_)) q⟩
 · rw[e,hf] at hq;omega
 · rw[e,h.z3.2] at hq;omega
end Go.SP
namespace Go.SW
open Go.RowKit
variable {X:Cx}{f:Fq}{Fs:List (World→Fq→Prop)}{B:List FB}{H H':List HB}{w:World}
theorem AW.perm{R:List RB}(h:AW X w f H R B Fs)(hp:H'.Perm H):AW X w f H' R B Fs:=by
 have hp2:(CZ H' R).Perm (CZ H R):=(hp.map _).append_right _
 exact {h with
         blk:=λe he=>h.blk e (hp.mem_iff.1 he),
         nd:=hp2.nodup_iff.2 h.nd,
         own:=λb hb=>h.own b (hp2.mem_iff.1 hb),
         hnw:=λe he=>h.hnw e (hp.mem_iff.1 he)}
end Go.SW
namespace Go.SP
open Go.SW Go.RowKit
abbrev pV(n:Nat)(s:CS)(e:Bt)(op ln co:Int)(tx:lU)(nm:Int)(kids:Nd)(x:(T1×Option Addr×Nat)×CS):Prop:=BP n s e op ln co tx nm kids=.ok (x.1.1,x.2)∧x.1.1.bnd∧DZ x.2∧x.2.fresh+1≤s.fresh+200002*(kids.size+1)
def Xd(P:Program)(fid:FuncId)(TE T TS:TypeId)(n:Nat):Prop:=∀(w:World)(f:Fq)(_:Vl w f)(A:Ad)(_:A.ok)(s:CS)(_:Au T TS A s w f)(_:∀b,BE A b→f b=0)(_:DZ s)(op ln co nm:Int)(tx:lU)(kids:Nd)(na:Option Addr)(nc:Nat)(e:Bt)(ea:Option Addr),
 kids.size<n→kids.size≤200000→Hj op kids→AK w f kids na nc→Gt e→AQ w f e ea→s.fresh+200002*(kids.size+1)≤800000000000 →
 BS P fid #[.pointer (some ⟨A.cb,0,none⟩),nV op ln co tx nm kids na nc,.pointer ea] w (Fv (α:=(T1×Option Addr×Nat)×CS) (λx=>tV x.1.1 x.1.2.1 x.1.2.2) (pV n s e op ln co tx nm kids) (BE A) (λx=>Au T TS A x.2) (λx=>[λw f=>Ah w f x.1.1.kids x.1.2.1 x.1.2.2]) w f)
   (PanE TE (BE A) (λer=>BP n s e op ln co tx nm kids=.error er) w f)
section
variable{p:Ly}{s s1 s2 s3 s4 s5:CS}{e e5:Bt}{op ln co nm bop bln bco bnm o1 l1 c1 m1:Int}{tx btx x1:lU}{k bk r pk rest:Nd}{d:Ty}{q t t0 rt pt:T1}{n:Nat}
theorem Tf:Fi p e s k=(match Fi p e s k with|.error x=>.error x|.ok (l,s3)=>.ok (Ty.nil.app l,s3)):=by
 cases Fi p e s k with
 |error x=>rfl
 |ok q=>rfl
theorem UC(h:p s e op ln co tx nm k=.ok (q,s5)) :
   (match Fi p e s (.cons op ln co tx nm k r) with|.error x=>.error x|.ok (l,s3)=>.ok (d.app l,s3):RI (Ty×CS))=(match Fi p e s5 r with|.error x=>.error x|.ok (l,s3)=>.ok ((d.snoc q).app l,s3)):=by
 rw[Fi,h];simp only
 cases Fi p e s5 r with
 |error x=>rfl
 |ok z=>obtain⟨l,s3⟩:=z;simp only[Ty.snoc_app]
variable {ar:Ty}
theorem TX{a:T1}(h:p s e op ln co tx nm k=.ok (q,s5))(h2:FJ s5 a q ln co=.ok s4):HQ p e s (a.cons ar) (.cons op ln co tx nm k r)=HQ p e s4 ar r:=by
 rw[HQ,h];simp only;rw[T1.hd_cons,h2];simp only;rw[T1.tl_cons]
theorem WG(h:p s e op ln co tx nm k=.ok (q,s5))(h2:FJ (AB s5).2 t (.con Dv (q.cons (AB s5).1.one)) ln co=.ok s4):Kb p e s t (.cons op ln co tx nm k r)=Kb p e s4 (AB s5).1 r:=by
 rw[Kb,h];simp only;rw[h2]
theorem Va(h1:CF n s e op ln co tx nm pk=.ok (q,e5,s1))(h2:FJ s1 pt q ln co=.ok s2)(h3:p s2 e5 bop bln bco btx bnm bk=.ok (rt,s3))(h4:FJ s3 t0 rt bln bco=.ok s4) :
   EA n p e pt s (some t0) (.cons o1 l1 c1 x1 m1 (.cons op ln co tx nm pk (.cons bop bln bco btx bnm bk rest)) r)=EA n p e pt s4 (some t0) r:=by
 rw[EA];simp only;rw[h1];simp only;rw[h2];simp only;rw[h3];simp only;rw[h4]
theorem TF(h1:CF n s e op ln co tx nm pk=.ok (q,e5,s1))(h2:FJ s1 pt q ln co=.ok s2)(h3:p s2 e5 bop bln bco btx bnm bk=.ok (rt,s3)) :
   EA n p e pt s none (.cons o1 l1 c1 x1 m1 (.cons op ln co tx nm pk (.cons bop bln bco btx bnm bk rest)) r)=EA n p e pt s3 (some rt) r:=by
 rw[EA];simp only;rw[h1];simp only;rw[h2];simp only;rw[h3]
end
variable {m:Nat}
theorem CM{k:Nd}(h:k.wfm m)(hm:2≤m):∃op ln co tx nm k2 r,k=.cons op ln co tx nm k2 r:=by
 cases k with
 |nil=>rcases h with h|h <;> omega
 |cons op ln co tx nm k2 r=>exact⟨op,ln,co,tx,nm,k2,r,rfl⟩
variable {σ:Br}{f:Fq}{lo x:Operand}{a:Option Addr}{P:Program}{T ty:TypeId}{w:World}
theorem AK.rest{op ln co nm:Int}{tx:lU}{k r:Nd}{c:Nat}(h:AK w f (.cons op ln co tx nm k r) a c):AK w f r (DA a c 6) (c-1):=by
 obtain⟨h1,h2⟩:=h;have h1:r.len+1≤c:=h1;refine⟨oM,?_⟩;rcases h2 with h2|⟨b,off,ha,hg⟩
 · cases h2
 · cases r with
   |nil=>exact .inl rfl
   |cons o2 l2 c2 x2 m2 k2 r2 =>
     simp only[Nd.len] at h1;refine .inr ⟨b,off+6,?_,hg.2⟩;rw[DA,if_neg (by omega),ha];rfl
theorem Og{e:TypeId}{k len c:Nat}(hl:len=m+1)(hx:ev σ x=some (.slice a len c))(hlo:ev σ lo=some (.int .i64 1))(hs:Kg P T=some (e,k)):AS P σ (.slice T x (some lo) none none) ty w (.slice (DA a c k) m (c-1)) w:=by
 subst hl;exact VQ hx hlo hs
theorem Ty.last_get:∀{k:Ty}{m:Nat},k.len=m+1→k.get m=some k.last
 |.nil,m,h=>by simp[Ty.len] at h
 |.var n .nil,m,h=>by obtain rfl:m=0:=(by simpa[Ty.len] using h.symm);rfl
 |.con tx k .nil,m,h=>by obtain rfl:m=0:=(by simpa[Ty.len] using h.symm);rfl
 |.var n (.var n2 r),m,h=>by
   obtain⟨m,rfl⟩:∃q,m=q+1:=⟨m-1,by simp only[Ty.len] at h;omega⟩;exact Ty.last_get (k:=.var n2 r) (by simp only[Ty.len] at h ⊢;omega)
 |.var n (.con tx2 k2 r),m,h=>by
   obtain⟨m,rfl⟩:∃q,m=q+1:=⟨m-1,by simp only[Ty.len] at h;omega⟩;exact Ty.last_get (k:=.con tx2 k2 r) (by simp only[Ty.len] at h ⊢;omega)
 |.con tx k (.var n2 r),m,h=>by
   obtain⟨m,rfl⟩:∃q,m=q+1:=⟨m-1,by simp only[Ty.len] at h;omega⟩;exact Ty.last_get (k:=.var n2 r) (by simp only[Ty.len] at h ⊢;omega)
 |.con tx k (.con tx2 k2 r),m,h=>by
   obtain⟨m,rfl⟩:∃q,m=q+1:=⟨m-1,by simp only[Ty.len] at h;omega⟩;exact Ty.last_get (k:=.con tx2 k2 r) (by simp only[Ty.len] at h ⊢;omega)
section
variable{s:CS}{e:Bt}{op ln co nm:Int}{tx:lU}{k r:Nd}{d:Ty}
theorem Oy(hr:r≠.nil):(d.app (FO s e (.cons op ln co tx nm k r)).1,(FO s e (.cons op ln co tx nm k r)).2)=((d.snoc (AB s).1).app (FO (AB s).2 (if op==22 then ⟨tx,(AB s).1,[]⟩::e else e) r).1,(FO (AB s).2 (if op==22 then ⟨tx,(AB s).1,[]⟩::e else e) r).2):=by
 cases r with
 |nil=>exact absurd rfl hr
 |cons o2 l2 c2 x2 m2 k2 r2 =>
   rw[FO]
   · rw[Ty.snoc_app]
   · intro h;cases h
theorem Nd.last_step(hr:r≠.nil):(Nd.cons op ln co tx nm k r).last=r.last:=by
 cases r with
 |nil=>exact absurd rfl hr
 |cons=>rfl
end
theorem Nd.ne_nil{r:Nd}(h:0<r.len):r≠.nil:=λe=>by rw[e] at h;exact absurd h dC
theorem xK{k:Nd}(h:Hj 6 k):k.wfm 0:=by simpa[Hj] using h
theorem wZ{k:Nd}(h:Hj 7 k):k.wfm 4:=by simpa[Hj] using h
theorem wJ{k:Nd}(h:Hj 8 k):0<k.len∧k.wfm 0:=by simpa[Hj] using h
theorem wL{k:Nd}(h:Hj 9 k):k.wfm 6:=by simpa[Hj] using h
theorem tI{k:Nd}(h:Hj 10 k):k.wfm 6:=by simpa[Hj] using h
theorem vL{k:Nd}(h:Hj 11 k):k.wfm 7:=by simpa[Hj] using h
theorem tF{k:Nd}(h:Hj 12 k):0<k.len∧k.wfm 0:=by simpa[Hj] using h
theorem vJ{k:Nd}(h:Hj 13 k):k.wfm 0:=by simpa[Hj] using h
theorem tK{k:Nd}(h:Hj 14 k):k.wfm 5:=by simpa[Hj] using h
theorem tY{k:Nd}(h:Hj 15 k):k.wfm 5:=by simpa[Hj] using h
theorem vA{k:Nd}(h:Hj 16 k):k.wfm 3:=by simpa[Hj] using h
theorem uQ{op:Int}{k:Nd}(h:Hj op k)(h1:(op==1)=false)(h2:(op==2)=false)(h3:(op==3)=false)(h4:(op==4)=false)(h5:(op==5)=false)(h6:(op==6)=false)(h7:(op==7)=false)(h8:(op==8)=false)(h9:(op==9)=false)(h10:(op==10)=false)(h11:(op==11)=false)(h12:(op==12)=false)(h13:(op==13)=false)(h14:(op==14)=false)(h15:(op==15)=false)(Ee:(op==16)=false):k.wfm 3:=by
 simp only[beq_eq_false_iff_ne,ne_eq] at *;unfold Hj at h;rcases h with h|h|h|h|h|h|h|h|h
 · omega
 · exact absurd h.1 h6
 · exact absurd h.1 h7
 · rcases h.1 with h|h
   · exact absurd h h8
   · exact absurd h h12
 · rcases h.1 with h|h
   · exact absurd h h9
   · exact absurd h h10
 · exact absurd h.1 h11
 · exact absurd h.1 h13
 · rcases h.1 with h|h
   · exact absurd h h14
   · exact absurd h h15
 · exact h.2
theorem Yq:∀(n:Nat)(k:Ty),k.len≤n→k.bnd→(HO k).bnd:=by
 intro n
 induction n with
 |zero=>intro k hk _;obtain rfl:=Ty.len0 (k:=k) oM;exact B9 0
 |succ n ih =>
   intro k hk hb
   cases hk0:k.len with
   |zero=>obtain rfl:=Ty.len0 hk0;exact B9 0
   |succ m =>
     obtain⟨t,r,rfl⟩:=Ty.cases1 k oM;rw[T1.len_cons] at hk;obtain⟨hb1,hb2⟩:=T1.bnd_cons.1 hb
     cases hr:r.len with
     |zero=>obtain rfl:=Ty.len0 hr;exact (Ql t).symm▸hb1
     |succ m2 =>
       have:=ih r oM hb2;obtain⟨u,r,rfl⟩:=Ty.cases1 r oM;rw[NT];exact D7 dC (by simp[T1.len_cons,T1.one,Ty.len]) (T1.bnd_cons.2 ⟨hb1,GO this⟩)
def Nd.txb:Nd→Prop
 |.nil=>True
 |.cons _ _ _ tx _ k r=>tx.length≤100000∧k.txb∧r.txb
def Nv(datas:List (lU×Int))(tx:lU)(kids:Nd):Bool :=
 if DP HC ([32]++tx++[32]) then (kids.len:Int)==0
 else if tx==Dv then (kids.len:Int)==2
 else if DP PW ([32]++tx++[32]) then true
 else match Cd datas tx with|some c=>c==(kids.len:Int)|none=>false
def Dz(datas:List (lU×Int))(vars:List (lU×T1))(op ln co:Int)(tx:lU)(kids:Nd):RI T1 :=
 if op==31 then (match Cd vars tx with
   |some t=>.ok t
   |none=>.error (ln,co,11))
 else if Nv datas tx kids then (match GZ datas vars kids with|.error x=>.error x|.ok k=>.ok (.con tx k)) else .error (ln,co,11)
section
variable{datas:List (lU×Int)}{vars:List (lU×T1)}{op ln co nm:Int}{tx:lU}{k r:Nd}{d:Ty}{t:T1}{er:Er}
theorem LS:GZ datas vars (.cons op ln co tx nm k r)=(match Dz datas vars op ln co tx k with
   |.error x=>.error x
   |.ok t=>match GZ datas vars r with
     |.error x=>.error x
     |.ok l=>.ok (t.cons l)):=rfl
theorem O7:GZ datas vars k=(match GZ datas vars k with|.error x=>.error x|.ok l=>.ok (Ty.nil.app l)):=by cases GZ datas vars k <;> rfl
theorem Hm(h:Dz datas vars op ln co tx k=.ok t):(match GZ datas vars (.cons op ln co tx nm k r) with|.error x=>.error x|.ok l=>.ok (d.app l):RI Ty)=(match GZ datas vars r with|.error x=>.error x|.ok l=>.ok ((d.snoc t).app l)):=by
 rw[LS,h];simp only
 cases GZ datas vars r with
 |error x=>rfl
 |ok z=>simp only[Ty.snoc_app]
theorem Kd(h:Dz datas vars op ln co tx k=.error er):GZ datas vars (.cons op ln co tx nm k r)=.error er:=by rw[LS,h]
end
theorem ER{α:Type}(g:α→Value)(n:lU):∀l:List (lU×α),FL (l.map λp=>(p.1,g p.2)) n=(Cd l n).map g
 | []=>rfl
 |(k,v)::l=>by
   simp only[List.map_cons,FL,Cd]
   by_cases h:k=n
   · subst h;simp
   · have e1:(k==n)=false:=by simpa using h
     have e2:(n==k)=false:=by simpa using λe:n=k=>h e.symm
     rw[e1,e2];simpa using ER g n l
def N6(v:Value)(vars:List (lU×T1))(w:World):Prop:=(v=.map none∧vars=[])∨∃m,v=.map (some m)∧Cm CG w m (vars.map λp=>(p.1,tV p.2 none 0))∧Lm (vars.map λp=>(p.1,tV p.2 none 0))∧∀n t,Cd vars n=some t→∃q,t=.var q
variable {f':Fq}{e:TypeId}{w':World}
theorem N6.keep{v:Value}{vars:List (lU×T1)}(h:N6 v vars w)(hE:CR (λ_=>False) w f w' f'):N6 v vars w' :=
 h.imp id λ⟨m,h1,h2,h3⟩=>⟨m,h1,h2.heap (hE.stp.block m h2.lt (λh=>h)),h3⟩
theorem mU{k:TypeId}{y:Operand}{z:Value}{a:lU}(hx:ev σ x=some (.map none))(hy:ev σ y=some (S a))(hT:G4 P T=some (k,e))(hk:P.underlying k=some CG.desc)(hz:gC P e z):AS P σ (.lookup T x y true) ty w (.tuple #[z,.bool false]) w:=λρ _ _ _ _ hρ=>by
 have hu:=Kr hT;obtain⟨i,hi,hz⟩:=RT hz;have hck:=λb=>CG.chk P k w a b hk;have hck2:∀b,(Instr.checkKey b 10000 k (S a)).run P w=.ok () w:=hck;simp[execOp,hρ _ _ hx,hρ _ _ hy,Instr.lookup,run_underlying hu,hck2,Instr.findKey,run_underlying hk,Instr.findNow,zeroValue,typeInfo,hi,hz]
def qQ(P:Program)(G:World→Fq→Prop)(fid:FuncId)(TE T TS:TypeId)(n:Nat):Prop:=∀(w:World)(f:Fq)(_:Vl w f)(A:Ad)(s:CS)(_:Au T TS A s w f)(_:DZ s)(_:G w f)(op ln co nm:Int)(tx:lU)(kids:Nd)(na:Option Addr)(nc:Nat)(vv:Value)(vars:List (lU×T1)),
 kids.size<n→kids.size≤200000→tx.length≤100000→kids.txb→N6 vv vars w→AK w f kids na nc →
 BS P fid #[.pointer (some ⟨A.cb,0,none⟩),nV op ln co tx nm kids na nc,vv] w (BW (α:=T1×Option Addr×Nat) (λx=>tV x.1 x.2.1 x.2.2) (λx=>Dz s.datas vars op ln co tx kids=.ok x.1∧x.1.bnd) (λx=>[λw f=>Ah w f x.1.kids x.2.1 x.2.2]) w f)
   (PanE TE (λ_=>False) (λer=>Dz s.datas vars op ln co tx kids=.error er) w f)
section
variable{T TS:TypeId}{A:Ad}{s:CS}{w w':World}{f f':Fq}
variable {fr pr:Int}{ac b mb oc sb vc:Nat}{aa oa va:Option Addr}
theorem BQ.chg{so:BX}(h:BQ TS sb mb so fr pr w f)(hC:Hh b w w')(h1:sb≠b)(h2:mb≠b)(hf:f b=0):BQ TS sb mb so fr pr w' f :=
 BQ.stab (MI:=λk=>k=sb∨k=mb) (.inl rfl) (.inr rfl) _ _ _ _ h (Hh.fle hC hf) λk hk=>hC.block k (by rcases hk with rfl|rfl;exact h1;exact h2)
theorem Au.setVars(h:Au T TS A s w f)(hA:A.ok)(hC:Hh A.cb w w'){v:Int}(hb:AT w' A.cb [.pointer (some ⟨A.sb,0,none⟩),.map (some A.km),.map (some A.dm),.map (some A.rm),.int .i64 v] T)(hf:f A.cb=0):Au T TS A {s with vars:=v} w' f where
 blk:=hb
 sol:=let ⟨pr,hp⟩:=h.sol;⟨pr,hp.chg hC (Ne.symm hA.cs) (Ne.symm hA.cm.1) hf⟩
 cons:=let ⟨es,h1,h2⟩:=h.cons;⟨es,h1.heap (hC.block _ (Ne.symm hA.cm.2.1)),Ci.mono (Hh.fle hC hf) _ _ h2⟩
 datas:=h.datas.heap (hC.block _ (Ne.symm hA.cm.2.2.1))
 roots:=h.roots.heap (hC.block _ (Ne.symm hA.cm.2.2.2))
theorem Au.addData(h:Au T TS A s w f)(hA:A.ok)(hC:Hh A.dm w w'){k:lU}{n:Int}(hm:Cm CG w' A.dm ((k,.int .i64 n)::s.datas.map λp=>(p.1,.int .i64 p.2)))(hf:f A.dm=0):Au T TS A {s with datas:=(k,n)::s.datas} w' f where
 blk:=(hC.block _ hA.cm.2.2.1).trans h.blk
 sol:=let ⟨pr,hp⟩:=h.sol;⟨pr,hp.chg hC hA.sm.2.2.1 hA.mm.2.1 hf⟩
 cons:=let ⟨es,h1,h2⟩:=h.cons;⟨es,h1.heap (hC.block _ hA.mm.2.2.2.1),Ci.mono (Hh.fle hC hf) _ _ h2⟩
 datas:=hm
 roots:=h.roots.heap (hC.block _ (Ne.symm hA.mm.2.2.2.2.2))
theorem Au.addRoot(h:Au T TS A s w f)(hA:A.ok)(hC:Hh A.rm w w'){k:lU}(hm:Cm CG w' A.rm ((k,.bool true)::s.roots.map λk=>(k,.bool true)))(hf:f A.rm=0):Au T TS A {s with roots:=k::s.roots} w' f where
 blk:=(hC.block _ hA.cm.2.2.2).trans h.blk
 sol:=let ⟨pr,hp⟩:=h.sol;⟨pr,hp.chg hC hA.sm.2.2.2 hA.mm.2.2.1 hf⟩
 cons:=let ⟨es,h1,h2⟩:=h.cons;⟨es,h1.heap (hC.block _ hA.mm.2.2.2.2.1),Ci.mono (Hh.fle hC hf) _ _ h2⟩
 datas:=h.datas.heap (hC.block _ hA.mm.2.2.2.2.2)
 roots:=hm
theorem Au.addCons(h:Au T TS A s w f)(hA:A.ok){es:List (lU×Value)}(hE:Ci w f s.cons es)(hC:Hh A.km w w'){k:lU}{m:Mk}(hm:Cm CG w' A.km ((k,.agg (aQ m aa ac oa oc va vc).toArray)::es))(hf:f A.km=0)
   (h1:Ah w f m.args aa ac) (h2:Ah w f m.out.kids oa oc) (h3:B7 w f m.vars va vc):Au T TS A {s with cons:=(k,m)::s.cons} w' f where
 blk:=(hC.block _ hA.cm.2.1).trans h.blk
 sol:=let ⟨pr,hp⟩:=h.sol;⟨pr,hp.chg hC hA.sm.2.1 hA.mm.1 hf⟩
 cons:=⟨_,hm,aa,ac,oa,oc,va,vc,es,rfl,Ah.mono _ _ _ _ h1 (Hh.fle hC hf),Ah.mono _ _ _ _ h2 (Hh.fle hC hf),B7.mono _ _ _ _ h3 (Hh.fle hC hf),Ci.mono (Hh.fle hC hf) _ _ hE⟩
 datas:=h.datas.heap (hC.block _ (Ne.symm hA.mm.2.2.2.1))
 roots:=h.roots.heap (hC.block _ (Ne.symm hA.mm.2.2.2.2.1))
end
abbrev rC(vars:List (lU×T1)):List (lU×Value):=vars.map λp=>(p.1,tV p.2 none 0)
def EE(T TS:TypeId)(A:Ad)(s:CS)(vm:Nat)(vars:List (lU×T1))(w:World)(f:Fq):Prop:=Au T TS A s w f∧Cm CG w vm (rC vars)
section
variable{T TS:TypeId}{A:Ad}{s:CS}{w w':World}{f f':Fq}{vm:Nat}{vars:List (lU×T1)}
theorem EE.stab:GH (λb=>BE A b∨b=vm) (EE T TS A s vm vars):=λw f w' f' h hF hb =>
 ⟨Au.stab w f w' f' h.1 hF λb hm=>hb b (.inl hm),h.2.heap (hb _ (.inr rfl))⟩
variable {b:Nat}
theorem PN{l:List (lU×Value)}(h:Cm CG w vm l)(hC:Hh b w w')(hne:vm≠b):Cm CG w' vm l:=h.heap (hC.block _ hne)
end
section
variable{P:Program}{n:Nat}{Q:Bm}{ds:List Deferred}{M:Nat→Prop}{w0:World}{f0:Fq}{T TS:TypeId}{A:Ad}{s:CS}{vm:Nat}{vars:List (lU×T1)}{R:List RB}{B:List FB}{Fs:List (World→Fq→Prop)}{fs:List Fr}{σ:Br}{H:List HB}
variable{all r:List Oper}{ty TM k e:TypeId}{pos:String}{af:Array Edge}{g:Option (Nat×Bool)}{x y z:Operand}
variable {ag:Bool}{ac i1 oc vc:Nat}{aa oa va:Option Addr}{vz:Value}
theorem vD{v:Int}(hA:A.ok)(hvm:¬BE A vm)(hg:gd all σ g=some true)(hx:ev σ x=some (.pointer (some ⟨A.cb,4,none⟩)))(hy:ev σ y=some (.int .i64 v))(hT:Bf P TM=some (ag,1))
   (h:AF P n Q ds ⟨M,λb=>BE A b∨b=vm,EE T TS A {s with vars:=v} vm vars,w0,f0⟩ R B Fs (.ops all r) fs σ H):AF P n Q ds ⟨M,λb=>BE A b∨b=vm,EE T TS A s vm vars,w0,f0⟩ R B Fs (.ops all (⟨none,.store TM x y,ty,pos,af,g⟩::r)) fs σ H :=
 aK (b:=A.cb) (I':=EE T TS A {s with vars:=v} vm vars) hg hx hy rfl hT rfl rfl rfl (.inl (.inl rfl)) (λw f h=>h.1.blk) (λw f w2 h hM hC hb=>⟨h.1.setVars hA hC hb (hM.mi _ (.inl (.inl rfl))).2.1,PN h.2 hC λe=>hvm (e▸.inl rfl)⟩) EE.stab h
theorem sS{a:lU}{q:Int}(hvm:¬BE A vm)(hg:gd all σ g=some true)(hx:ev σ x=some (.map (some vm)))(hy:ev σ y=some (S a))(hz:ev σ z=some (tV (.var q) none 0))(hT:G4 P TM=some (k,e))(hk:P.underlying k=some .string)(hd:Lm (rC vars))(hn:Cd vars a=none)
   (h:AF P n Q ds ⟨M,λb=>BE A b∨b=vm,EE T TS A s vm ((a,.var q)::vars),w0,f0⟩ R B Fs (.ops all r) fs σ H):AF P n Q ds ⟨M,λb=>BE A b∨b=vm,EE T TS A s vm vars,w0,f0⟩ R B Fs (.ops all (⟨none,.mapUpdate TM x y z,ty,pos,af,g⟩::r)) fs σ H :=
 aN (K:=CG) (a:=a) (l:=rC vars) (I':=EE T TS A s vm ((a,.var q)::vars)) hg hx hy hz hT hk (.inr rfl) hd (by rw[rC,ER (λt=>tV t none 0),hn];rfl) (λw f h=>h.2) (λw f w2 h hM hC hm=>⟨h.1.chg hC hvm (hM.mi vm (.inr rfl)).2.1,hm⟩) EE.stab h
theorem rA{a:lU}{q:Int}(hA:A.ok)(hvm:¬BE A vm)(hw:DZ s)(hg:gd all σ g=some true)(hx:ev σ x=some (.map (some A.dm)))(hy:ev σ y=some (S a))(hz:ev σ z=some (.int .i64 q))(hT:G4 P TM=some (k,e))(hk:P.underlying k=some .string)(hn:Cd s.datas a=none)
   (h:AF P n Q ds ⟨M,λb=>BE A b∨b=vm,EE T TS A {s with datas:=(a,q)::s.datas} vm vars,w0,f0⟩ R B Fs (.ops all r) fs σ H):AF P n Q ds ⟨M,λb=>BE A b∨b=vm,EE T TS A s vm vars,w0,f0⟩ R B Fs (.ops all (⟨none,.mapUpdate TM x y z,ty,pos,af,g⟩::r)) fs σ H :=
 aN (K:=CG) (a:=a) (l:=s.datas.map λp=>(p.1,.int .i64 p.2)) (I':=EE T TS A {s with datas:=(a,q)::s.datas} vm vars) hg hx hy hz hT hk (.inl (.inr (.inr (.inr (.inr (.inl rfl)))))) hw.dd (by rw[ER (λc=>Value.int .i64 c),hn];rfl) (λw f h=>h.1.datas) (λw f w2 h hM hC hm=>⟨h.1.addData hA hC hm (hM.mi _ (.inl (.inr (.inr (.inr (.inr (.inl rfl))))))).2.1,PN h.2 hC λe=>hvm (e▸.inr (.inr (.inr (.inr (.inl rfl)))))⟩) EE.stab h
theorem qG{a:lU}{m:Mk}{i2 i3:Nat}(hA:A.ok)(hvm:¬BE A vm)(hw:DZ s)(hg:gd all σ g=some true)(hx:ev σ x=some (.map (some A.km)))(hy:ev σ y=some (S a))(hz:ev σ z=some vz)(hvz:vz=.agg (aQ m aa ac oa oc va vc).toArray)(hT:G4 P TM=some (k,e))(hk:P.underlying k=some .string)(hn:Cd s.cons a=none)
   (hf1:nth Fs i1=some λw f=>Ah w f m.args aa ac) (hf2:nth Fs i2=some λw f=>Ah w f m.out.kids oa oc) (hf3:nth Fs i3=some λw f=>B7 w f m.vars va vc)
   (h:AF P n Q ds ⟨M,λb=>BE A b∨b=vm,EE T TS A {s with cons:=(a,m)::s.cons} vm vars,w0,f0⟩ R B Fs (.ops all r) fs σ H):AF P n Q ds ⟨M,λb=>BE A b∨b=vm,EE T TS A s vm vars,w0,f0⟩ R B Fs (.ops all (⟨none,.mapUpdate TM x y z,ty,pos,af,g⟩::r)) fs σ H:=by
 subst hvz;exact pS (λes w f=>EE T TS A s vm vars w f∧Cm CG w A.km es∧Ci w f s.cons es) (λw f h=>let ⟨es,h1,h2⟩:=h.1.cons;⟨es,h,h1,h2⟩) (λes w f w' f' h hF hb=>⟨EE.stab w f w' f' h.1 hF hb,h.2.1.heap (hb _ (.inl (.inr (.inr (.inr (.inl rfl)))))),Ci.mono hF _ _ h.2.2⟩) λes=>KA (λw f hM=>(show Lm es from Ci.dis hM.res.2.2 hw.dc)) λhdis=>KA (λw f hM=>(show FL es a=none from (Ci.look hM.res.2.2).1 hn)) λhlk=>aN (K:=CG) (a:=a) (l:=es) (I':=EE T TS A {s with cons:=(a,m)::s.cons} vm vars) hg hx hy hz hT hk (.inl (.inr (.inr (.inr (.inl rfl))))) hdis hlk (λw f h=>h.2.1) (λw f w2 h hM hC hm=>⟨h.1.1.addCons hA h.2.2 hC hm (hM.mi _ (.inl (.inr (.inr (.inr (.inl rfl)))))).2.1 (hM.fact hf1) (hM.fact hf2) (hM.fact hf3),PN h.1.2 hC λe=>hvm (e▸.inr (.inr (.inr (.inl rfl))))⟩) EE.stab h
end
theorem IP{α:Type}{a b:lU}{v:α}{l:List (lU×α)}:Cd ((a,v)::l) b=if a==b then some v else Cd l b:=rfl
theorem JZ{α:Type}(g:α→Value){a:lU}{v:α}{l:List (lU×α)}(h:Lm (l.map λp=>(p.1,g p.2)))(hn:Cd l a=none):Lm (((a,v)::l).map λp=>(p.1,g p.2)):=⟨by rw[ER,hn];rfl,h⟩
theorem DZ.addData{s:CS}(h:DZ s){a:lU}{q:Int}(hn:Cd s.datas a=none):DZ {s with datas:=(a,q)::s.datas}:={h with dd:=JZ (λc=>Value.int .i64 c) h.dd hn}
theorem DZ.setVars{s:CS}(h:DZ s){v:Int}:DZ {s with vars:=v}:={h with}
theorem DZ.addCons{s:CS}(h:DZ s){a:lU}{m:Mk}(hn:Cd s.cons a=none)(hm:m.args.len≤200000∧m.args.bnd∧m.out.bnd∧m.vars.length≤200000):DZ {s with cons:=(a,m)::s.cons} :=
 {h with
   cons:=λk m' hk=>by
     rw[IP] at hk
     split at hk
     · cases hk;exact hm
     · exact h.cons k m' hk,
   dc:=JZ (λ_=>Value.bool true) h.dc hn}
section
variable{ln co:Int}{op ln2 co2 nm:Int}{tx:lU}{k r:Nd}{v:Int}{m:List (lU×T1)}{self:Ty}{nums:List Int}
theorem Lf(h:(op==31)=true)(hn:Cd m tx=none):F4 ln co (.cons op ln2 co2 tx nm k r) v m self nums=F4 ln co r (v-1) ((tx,.var (v-1))::m) (self.snoc (.var (v-1))) (nums++[v-1]):=by
 rw[F4,if_pos h,if_neg (by rw[hn];decide)]
theorem Vb(h:(op==31)=true){t:T1}(hn:Cd m tx=some t):F4 ln co (.cons op ln2 co2 tx nm k r) v m self nums=.error (ln,co,11):=by
 rw[F4,if_pos h,if_pos (by rw[hn];rfl)]
theorem Rx(h:(op==31)=false):F4 ln co (.cons op ln2 co2 tx nm k r) v m self nums=F4 ln co r v m self nums:=by
 rw[F4,if_neg (by rw[h];decide)]
variable{datas:List (lU×Int)}{out:T1}{c:List (lU×Mk)}
theorem U8(h:(op==42)=true)(hn:Cd c tx=none){args:Ty}(ha:GZ datas m k=.ok args):EH datas m out nums (.cons op ln2 co2 tx nm k r) c=EH datas m out nums r ((tx,⟨args,out,nums⟩)::c):=by
 rw[EH,if_pos h,if_neg (by rw[hn];decide),ha]
theorem Q2(h:(op==42)=true){mk:Mk}(hn:Cd c tx=some mk):EH datas m out nums (.cons op ln2 co2 tx nm k r) c=.error (ln2,co2,11):=by
 rw[EH,if_pos h,if_pos (by rw[hn];rfl)]
theorem ND(h:(op==42)=true)(hn:Cd c tx=none){er:Er}(ha:GZ datas m k=.error er):EH datas m out nums (.cons op ln2 co2 tx nm k r) c=.error er:=by
 rw[EH,if_pos h,if_neg (by rw[hn];decide),ha]
theorem RH(h:(op==42)=false):EH datas m out nums (.cons op ln2 co2 tx nm k r) c=EH datas m out nums r c:=by
 rw[EH,if_neg (by rw[h];decide)]
end
abbrev Tk:=lU×Int×T1
def pC(p:Tk)(a:Option Addr)(c:Nat):List Value:=S p.1::.int .i64 p.2.1::tC p.2.2 a c
def Dm(w:World)(f:Fq):List Tk→List Value→Prop
 | [],xs=>xs=[]
 |p::l,xs=>∃a c xs',xs=pC p a c++xs'∧Ah w f p.2.2.kids a c∧Dm w f l xs'
theorem Dm.mono'{w w':World}{f f':Fq}(hF:J1 w f w' f'):∀(l:List Tk)(xs:List Value),Dm w f l xs→Dm w' f' l xs
 | [],_,h=>h
 |_::l,_,⟨a,c,xs',h1,h2,h3⟩=>⟨a,c,xs',h1,Ah.mono _ _ _ _ h2 hF,Dm.mono' hF l xs' h3⟩
theorem Dm.snoc{w:World}{f:Fq}{p:Tk}{a:Option Addr}{c:Nat}(hp:Ah w f p.2.2.kids a c):∀{l:List Tk}{xs:List Value},Dm w f l xs→Dm w f (l++[p]) (xs++pC p a c)
 | [],xs,h=>by
   have h:xs=[]:=h;subst h;exact⟨a,c,[],by simp,hp,rfl⟩
 |q::l,xs,⟨a',c',xs',h1,h2,h3⟩=>⟨a',c',xs'++pC p a c,by rw[h1,List.append_assoc],h2,Dm.snoc hp h3⟩
theorem Dm.len{w:World}{f:Fq}:∀{l:List Tk}{xs:List Value},Dm w f l xs→xs.length=l.length*6
 | [],xs,h=>by have h:xs=[]:=h;subst h;rfl
 |p::l,xs,⟨a,c,xs',h1,h2,h3⟩=>by
   have:=Dm.len h3;subst h1;simp only[List.length_append,List.length_cons,pC,tC,List.length_nil];omega
theorem Dm.mono{l:List Tk}{xs:List Value}:GC (λw f=>Dm w f l xs):=λ_ _ _ _ h hF=>Dm.mono' hF l xs h
def O2(ob:Nat)(a:Option Addr)(b:Nat):Prop:=b=ob∨rb a=some b
structure Ep(T E:TypeId)(ob:Nat)(sl:Value)(a:Option Addr)(c n:Nat)(xs:List Value)(w:World)(_:Fq):Prop where
 blk:AT w ob [sl] T
 row:Co w E 6 a c n xs
 ne:rb a≠some ob
section
variable{T E:TypeId}{ob:Nat}{sl sl':Value}{a a':Option Addr}{c c' n n':Nat}{xs xs':List Value}{w w':World}{f f':Fq}
theorem Ep.stab:GH (O2 ob a) (Ep T E ob sl a c n xs):=λw f w' f' h hF hb=>⟨(hb _ (.inl rfl)).trans h.blk,⟨h.row.1,h.row.2.imp id λ⟨b,l,h1,h2,h3⟩=>⟨b,l,h1,(hb b (.inr (by rw[h1];rfl))).trans h2,h3⟩⟩,h.ne⟩
variable {b:Nat}
theorem Ep.lt(h:Ep T E ob sl a c n xs w f)(hb:O2 ob a b):b<w.heap.size:=by
 rcases hb with rfl|hb
 · exact h.blk.lt
 · exact h.row.lt hb
theorem Ep.app(h:Ep T E ob sl a c n xs w f)(hr:Co w' E 6 a' c' n' xs')(hG:GA a w a' w'):Ep T E ob sl a' c' n' xs' w' f' :=
 ⟨h.blk.grow hG (λe=>h.ne e.symm),hr,λe=>hG.own.elim (λo=>h.ne (o.symm.trans e)) (λo=>absurd h.blk.lt (by rw[← Option.some.inj (o.symm.trans e)];exact Nat.lt_irrefl _))⟩
theorem Ep.store(h:Ep T E ob sl a c n xs w f)(hC:Hh ob w w')(hb:AT w' ob [sl'] T):Ep T E ob sl' a c n xs w' f':=⟨hb,Co.chgB h.row hC h.ne,h.ne⟩
theorem O2.or(h:O2 ob a' b):O2 ob a b∨rb a'=some b:=h.elim (λh=>.inl (.inl h)) .inr
end
def Tq:List (T1×Option Addr×Nat)→Ty
 | []=>.nil
 |t::l=>t.1.cons (Tq l)
def nJ:List (T1×Option Addr×Nat)→List Value
 | []=>[]
 |t::l=>tC t.1 t.2.1 t.2.2++nJ l
def rX(w:World)(f:Fq):List (T1×Option Addr×Nat)→Prop
 | []=>True
 |t::l=>Ah w f t.1.kids t.2.1 t.2.2∧rX w f l
theorem Yx{w:World}{f:Fq}:∀{l:List (T1×Option Addr×Nat)},rX w f l→Bo w f (Tq l) (nJ l)
 | [],_=>rfl
 |(.var n,a,c)::l,h=>⟨a,c,nJ l,rfl,Yx h.2⟩
 |(.con tx k,a,c)::l,h=>⟨a,c,nJ l,rfl,h.1,Yx h.2⟩
theorem QA:∀l:List (T1×Option Addr×Nat),(Tq l).len=l.length
 | []=>rfl
 |t::l=>by rw[Tq,T1.len_cons,QA l];rfl
variable {b:Nat}{M:Nat→Prop}{w0:World}
theorem Ds{w:World}{f:Fq}{l:List (T1×Option Addr×Nat)}(h:rX w f l)(hc:Cs w f b 0 (nJ l)):Ah w f (Tq l) (some ⟨b,0,none⟩) l.length:=Bo.toF (Yx h) hc (by rw[QA];exact Nat.le_refl _)
def UI(w:World)(f:Fq)(l:List Tk)(a:Option Addr)(c:Nat):Prop:=l.length≤c∧∃b xs,a=some ⟨b,0,none⟩∧Cs w f b 0 xs∧Dm w f l xs
theorem UI.mono{l:List Tk}{a:Option Addr}{c:Nat}:GC (λw f=>UI w f l a c):=λ_ _ _ _ h hF=>⟨h.1,let ⟨b,xs,h1,h2,h3⟩:=h.2;⟨b,xs,h1,h2.mono hF,Dm.mono' hF l xs h3⟩⟩
theorem Ep.fin{T E:TypeId}{ob:Nat}{sl:Value}{a:Option Addr}{c n:Nat}{xs:List Value}{w:World}{f0 f:Fq}{l:List Tk}(h:Ep T E ob sl a c n xs w f)(hE:CR M w0 f0 w f)(hn:∀b,rb a=some b→w0.heap.size≤b)(hL:Dm w f l xs)(hl:l.length=n)(h0:0<n):∃f',CR M w0 f0 w f'∧UI w f' l a c:=by
 rcases h.row.2 with ⟨_,_,hz⟩|⟨b,q,ha,hb,hmc,hq1,hq,ht⟩
 · omega
 · have hlt:=hb.lt
   refine⟨λk=>if k=b then max xs.length (f k) else f k,?_,oM,b,xs,ha,?_,?_⟩
   · refine⟨hE.stp,λk hk=>?_,λk hk=>?_⟩
     · have:=hn b (by rw[ha];rfl)
       rw[if_neg (by omega)];exact hE.old k hk
     · rw[if_neg (by omega)];exact hE.val k hk
   · intro j v hj
     have hjl:j<xs.length:=(List.getElem?_eq_some_iff.1 hj).1;refine⟨by simp only[if_true];omega,?_⟩;have hb':w.heap[b]?=some (.cells q.toArray _):=hb
     have hq2:q[j]?=some v:=by
       rw[← ht] at hj;rw[List.getElem?_take] at hj
       split at hj
       · exact hj
       · cases hj
     simp[World.cell?,hb',hq2]
   · exact Dm.mono' (λk=>⟨by split <;> omega,λ_ _=>rfl⟩) l xs hL
end Go.SP
namespace Go.SW
open Go.RowKit
variable {top:Bool}{fs:List Fr}
theorem vR{P:Program}{n:Nat}{Q:Bm}{ds:List Deferred}{X:Cx}{R:List RB}{B:List FB}{Fs:List (World→Fq→Prop)}{σ:Br}{H:List HB}{k:MU}(MI':Nat→Prop)(I':World→Fq→Prop)(hm:∀b,MI' b→X.MI b)(hI:∀w f,X.I w f→I' w f)(hst:GH MI' I')
   (h:AF P n Q ds {X with MI:=MI',I:=I' } R B Fs k fs σ H):AF P n Q ds X R B Fs k fs σ H:=λw f hM =>
 h w f {hM with
         res:=hI w f hM.res,
         stab:=hst,
         mi:=λb hb=>hM.mi b (hm b hb),
         own:=λb hb=>⟨(hM.own b hb).1,(hM.own b hb).2.1,λh=>(hM.own b hb).2.2 (hm b h)⟩}
section
variable{P:Program}{n:Nat}{Q:Bm}{ds:List Deferred}{X:Cx}{R:List RB}{B:List FB}{Fs:List (World→Fq→Prop)}{l:List Oper}{Hk:List HB}{B0:List FB}{J:World→Prop}{σ:Br}{H:List HB}
theorem LP{α:Type}{t:OT}(t':OT)(s':α→Br)(H':α→List HB)(B':α→List FB)(F':α→List (World→Fq→Prop))(h1:∀x,D6 P n Q ds X R (B' x) (F' x) l Hk B0 J true t' (s' x) (H' x))
   (h2:(∀x,D6 P n Q ds X R (B' x) (F' x) l Hk B0 J true t' (s' x) (H' x))→D6 P n Q ds X R B Fs l Hk B0 J top t σ H):D6 P n Q ds X R B Fs l Hk B0 J top t σ H:=h2 h1
theorem Fx{α:Type}{t:OT}{s':α→Br}{H':α→List HB}{B':α→List FB}{F':α→List (World→Fq→Prop)}(h:∀x,D6 P n Q ds X R (B' x) (F' x) l Hk B0 J true t (s' x) (H' x))(x:α)(hl:Le (s' x) σ)(hM:∀w f,AW X w f H R B Fs→AW X w f (H' x) R (B' x) (F' x)):D6 P n Q ds X R B Fs l Hk B0 J true t σ H :=
 λw f hm a ha=>h x w f (hM w f hm) a (ha.le hl)
end
end Go.SW
namespace Go.SP
open Go.SW Go.RowKit
section
variable{P:Program}{n:Nat}{Q:Bm}{ds:List Deferred}{M:Nat→Prop}{w0:World}{f0:Fq}{T TS:TypeId}{A:Ad}{s:CS}{R:List RB}{B:List FB}{Fs:List (World→Fq→Prop)}{fs:List Fr}{σ:Br}{H:List HB}
variable{all r:List Oper}{ty TM k e:TypeId}{pos:String}{af:Array Edge}{g:Option (Nat×Bool)}{x y z:Operand}
variable {ag:Bool}{ac i1 oc vc:Nat}{aa oa va:Option Addr}{vz:Value}
theorem tT{v:Int}(hA:A.ok)(hg:gd all σ g=some true)(hx:ev σ x=some (.pointer (some ⟨A.cb,4,none⟩)))(hy:ev σ y=some (.int .i64 v))(hT:Bf P TM=some (ag,1))
   (h:AF P n Q ds ⟨M,BE A,Au T TS A {s with vars:=v},w0,f0⟩ R B Fs (.ops all r) fs σ H):AF P n Q ds ⟨M,BE A,Au T TS A s,w0,f0⟩ R B Fs (.ops all (⟨none,.store TM x y,ty,pos,af,g⟩::r)) fs σ H :=
 aK (b:=A.cb) (I':=Au T TS A {s with vars:=v}) hg hx hy rfl hT rfl rfl rfl (.inl rfl) (λw f h=>h.blk) (λw f w2 h hM hC hb=>h.setVars hA hC hb (hM.mi _ (.inl rfl)).2.1) Au.stab h
theorem qH{a:lU}(hA:A.ok)(hw:DZ s)(hg:gd all σ g=some true)(hx:ev σ x=some (.map (some A.rm)))(hy:ev σ y=some (S a))(hz:ev σ z=some (.bool true))(hT:G4 P TM=some (k,e))(hk:P.underlying k=some .string)(hn:s.roots.contains a=false)
   (h:AF P n Q ds ⟨M,BE A,Au T TS A {s with roots:=a::s.roots},w0,f0⟩ R B Fs (.ops all r) fs σ H):AF P n Q ds ⟨M,BE A,Au T TS A s,w0,f0⟩ R B Fs (.ops all (⟨none,.mapUpdate TM x y z,ty,pos,af,g⟩::r)) fs σ H :=
 aN (K:=CG) (a:=a) (l:=s.roots.map λk=>(k,.bool true)) (I':=Au T TS A {s with roots:=a::s.roots}) hg hx hy hz hT hk (.inr (.inr (.inr (.inr (.inr rfl))))) hw.dr (by
   have:∀l:List lU,l.contains a=false→FL (l.map λk=>(k,Value.bool true)) a=none:=by
     intro l
     induction l with
     |nil=>intro _;rfl
     |cons b l ih =>
       intro hc;rw[List.contains_cons,Bool.or_eq_false_iff] at hc;simp only[List.map_cons,FL];rw[hc.1];simpa using ih hc.2
   exact this _ hn) (λw f h=>h.roots) (λw f w2 h hM hC hm=>h.addRoot hA hC hm (hM.mi _ (.inr (.inr (.inr (.inr (.inr rfl)))))).2.1) Au.stab h
theorem oS{a:lU}{m:Mk}(hA:A.ok)(hw:DZ s)(hg:gd all σ g=some true)(hx:ev σ x=some (.map (some A.km)))(hy:ev σ y=some (S a))(hz:ev σ z=some vz)(hvz:vz=.agg (aQ m aa ac oa oc va vc).toArray)(hT:G4 P TM=some (k,e))(hk:P.underlying k=some .string)(hn:Cd s.cons a=none)
   (hf1:nth Fs i1=some λw f=>Ah w f m.args aa ac) (hf2:m.out.kids=.nil) (hf3:m.vars=[])
   (h:AF P n Q ds ⟨M,BE A,Au T TS A {s with cons:=(a,m)::s.cons},w0,f0⟩ R B Fs (.ops all r) fs σ H):AF P n Q ds ⟨M,BE A,Au T TS A s,w0,f0⟩ R B Fs (.ops all (⟨none,.mapUpdate TM x y z,ty,pos,af,g⟩::r)) fs σ H:=by
 subst hvz;exact vT λes=>KA (λw f hM=>(show Lm es from Ci.dis hM.res.2.2 hw.dc)) λhdis=>KA (λw f hM=>(show FL es a=none from (Ci.look hM.res.2.2).1 hn)) λhlk=>aN (K:=CG) (a:=a) (l:=es) (I':=Au T TS A {s with cons:=(a,m)::s.cons}) hg hx hy hz hT hk (.inr (.inr (.inr (.inl rfl)))) hdis hlk (λw f h=>h.2.1) (λw f w2 h hM hC hm=>h.1.addCons hA h.2.2 hC hm (hM.mi _ (.inr (.inr (.inr (.inl rfl))))).2.1 (hM.fact hf1) (by rw[hf2];exact Ah.nil _ _ _ _) (by rw[hf3];exact⟨Nat.zero_le _,.inl rfl⟩)) Au.stab h
end
def Ox:Nat→Ty
 |0=>.nil
 |n+1=>(Ox n).snoc (c0 bS)
theorem LO:∀n,(Ox n).len=n
 |0=>rfl
 |n+1=>by rw[Ox,Ty.len_snoc,LO n]
theorem Ow:∀n,(Ox n).bnd
 |0=>trivial
 |n+1=>Ty.bnd_snoc (Ow n) (Dj dC)
def Iy:List (lU×lU×Int×Nat):=[([70,97,108,115,101],bB,0,0),([84,114,117,101],bB,1,0),([68,105,118],bX,0,0),([77,97,116,99,104],bX,1,0),([65,98,111,114,116],bX,2,0),([75,101,101,112],bX,3,0),([79,117,116],bX,4,0),([70,97,105,108],bX,5,1)]
def vS(p:lU×lU×Int×Nat):lU×Mk:=(p.1,⟨Ox p.2.2.2,c0 p.2.1,[]⟩)
def X7(i:Nat):List (lU×Mk):=((Iy.take i).map vS).reverse
variable {f:Fq}{b i:Nat}{w:World}
theorem Ol{p:lU×lU×Int×Nat}(h:Iy[i]?=some p):X7 (i+1)=vS p::X7 i:=by
 unfold X7;rw[D1 h,List.map_append,List.reverse_append];rfl
theorem Od:∀i,i<8→∀p,Iy[i]?=some p→Cd (X7 i) p.1=none:=by
 intro i hi p hp;have:i=0∨i=1∨i=2∨i=3∨i=4∨i=5∨i=6∨i=7:=oM;rcases this with rfl|rfl|rfl|rfl|rfl|rfl|rfl|rfl <;> (cases hp;decide)
def cC(p:lU×lU×Int×Nat):List Value:=[S p.1,S p.2.1,.int .i64 p.2.2.1,.int .i64 (p.2.2.2:Int)]
theorem Cs.flat{α:Type}(g:α→List Value)(q:Nat)(hg:∀x,(g x).length=q):∀(l:List α)(off i:Nat)(x:α),Cs w f b off (l.flatMap g)→l[i]?=some x→Cs w f b (off+i*q) (g x)
 | [],_,_,_,_,h=>by simp at h
 |y::l,off,0,x,hc,h=>by
   cases h
   rw[List.flatMap_cons] at hc;simpa using Cs.le hc
 |y::l,off,i+1,x,hc,h=>by
   rw[List.flatMap_cons] at hc;have h2:=Cs.drop hc;rw[hg] at h2;have:=Cs.flat g q hg l (off+q) i x h2 (by simpa using h);rwa[show off+q+i*q=off+(i+1)*q by rw[Nat.add_mul];omega] at this
theorem Dm.get:∀{l:List Tk}{xs:List Value}{off i:Nat}{p:Tk},Dm w f l xs→Cs w f b off xs→l[i]?=some p→∃a c,Cs w f b (off+i*6) (pC p a c)∧Ah w f p.2.2.kids a c
 | [],_,_,_,_,_,_,h=>by simp at h
 |q::l,xs,off,0,p,⟨a,c,xs',h1,h2,h3⟩,hc,h=>by
   cases h
   subst h1;exact⟨a,c,by simpa using Cs.le hc,h2⟩
 |q::l,xs,off,i+1,p,⟨a,c,xs',h1,h2,h3⟩,hc,h=>by
   subst h1;have h4:=Cs.drop hc;obtain⟨a',c',h5,h6⟩:=Dm.get h3 h4 (by simpa using h);exact⟨a',c',by rwa[show off+(pC q a c).length+i*6=off+(i+1)*6 by simp only[pC,tC,List.length_cons,List.length_nil];omega] at h5,h6⟩
end Go.SP
namespace Go.SW
open Go.RowKit
def nK(K:List Nat)(Q:Bm):Prop:=∀c σ σ' ds w,(∀k,k∈K→σ' k=σ k)→Q.p c σ ds w→Q.p c σ' ds w
def nS(K:List Nat):List Oper→Bool
 | []=>true
 |o::l=>(match o.dst with|some d=>!K.contains d|none=>true)&&nS K l
theorem VR{K:List Nat}:∀{l:List Oper}{i:Nat}{o:Oper}{d:Nat},nS K l=true→l[i]?=some o→o.dst=some d→d∉K
 | [],_,_,_,_,h,_=>by simp at h
 |x::l,0,o,d,hn,h,hd=>by
   cases h
   simp only[nS,hd,Bool.and_eq_true] at hn;simpa using hn.1
 |x::l,i+1,o,d,hn,h,hd=>by
   simp only[nS,Bool.and_eq_true] at hn;exact VR hn.2 (by simpa using h) hd
section
variable{P:Program}{n:Nat}{Q:Bm}{S:World→Prop}{l:List Oper}{K:List Nat}
variable {id:Nat}{w:World}
theorem cX(hpi:nK K Q){c:List PanicEntry}{a:Act}{d:Nat}{v:Value}(hd:d∉K)(h:Q.up n (.panic c) (a.put (some d) v) w):Q.up n (.panic c) a w:=by
 obtain⟨σ,ds,hs,hq⟩:=h;refine⟨λt=>if t=d then none else σ t,ds,⟨by have:=hs.size;simpa[Act.put] using this,hs.defs,λt v' ht=>?_⟩,hpi _ _ _ _ _ (λk hk=>if_neg (c:=k=d) λe=>hd (e▸hk)) hq⟩
 by_cases e:t=d
 · simp[e] at ht
 · simp only[e,if_false] at ht
   have h1:=hs.val t v' ht;simp only[Act.put,Array.getD_eq_getD_getElem?] at h1 ⊢;rwa[Array.getElem?_setIfInBounds_ne (λh=>e h.symm)] at h1
theorem Lc(hs:Region.noSelect l.toArray=true)(hpi:nK K Q)(hno:nS K l=true):∀(m:Nat)(t:OT)(listed:Array Bool)(a:Act)(w:World),t.even true m=true→t.ok l.toArray true listed=true→S w→ZT P l (Q.up n) S true t a w→wpAnyH P .any l.toArray (Q.up n) S m listed a w
 |m,.fin,listed,a,w,hev,ho,hS,h=>by
   simp[OT.even] at hev;subst hev;exact wpAnyH_done (by simpa[OT.ok] using ho) (h rfl) 0
 |0,.rd _ _,_,_,_,hev,_,_,_=>by simp[OT.even] at hev
 |0,.br _ _ _,_,_,_,hev,_,_,_=>by simp[OT.even] at hev
 |m+1,.rd i k,listed,a,w,hev,ho,hS,h=>by
   simp only[OT.ok,Bool.and_eq_true,Bool.true_and] at ho;obtain⟨o,v,hi,hy,h'⟩:=h
   exact wpAnyH_take (by simpa using hi) hs ho.1.1 ho.1.2 (λc a w hq=>by
     cases hd:o.dst with
     |none=>rw[hd] at hq;exact hq
     |some d=>rw[hd] at hq;exact cX hpi (VR hno hi hd) hq) hy hS (Lc hs hpi hno m k _ _ w hev ho.2 hS h')
 |m+1,.br i k o,listed,a,w,hev,ho,hS,h=>by
   have hok':(OT.br i k o).ok l.toArray false listed=true:=by
     simp only[OT.ok,Bool.and_eq_true] at ho ⊢;exact⟨⟨rfl,ho.1.2⟩,ho.2⟩
   have hev':(OT.br i k o).even false (m+1)=true:=hev
   have hrd:Region.ready .any l.toArray listed=(OT.br i k o).alts:=by
     simp only[OT.ok,Bool.and_eq_true,Bool.not_true,Bool.false_or,beq_iff_eq] at ho;exact ho.1.1
   have hw':ZT P l (Q.up n) S false (.br i k o) a w:=h;refine wpAnyH_all hrd (by simp[OT.alts]) λj hj=>?_;obtain⟨k',h1,⟨m',hm,h2⟩,h3⟩:=OT.alts_mem (.br i k o) l.toArray listed (m+1) j hok' hev' hj;obtain rfl:m=m':=oM;obtain⟨op,hop,hwl⟩:=h3 P l (Q.up n) S a w hw';exact wpOp_mono (λa' w' hk=>⟨hk.1,Lc hs hpi hno m k' _ a' w' h2 h1 hk.1 hk.2⟩) (Jk (by simpa using hop) (λ_ _ h=>h) hwl)
variable{σ:Br}{ds:List Deferred}{X:Cx}{R:List RB}{B:List FB}{Fs:List (World→Fq→Prop)}{fs:List Fr}{H Hk:List HB}
theorem Qg(hpi:nK K Q):∀fs:List Fr,nK K (Oi P n Q fs)
 | []=>hpi
 |.sq _::fs=>Qg hpi fs
 |.bk _::fs=>Qg hpi fs
theorem Xu(K:List Nat)(J:World→Prop)(hJ:∀w f,X.I w f→CR X.M X.w0 X.f0 w f→J w)(ix:List Nat)(hm:P.follows .mixedOrders=true)(t:OT)(hk:MA H ix=some Hk)(hok:t.ok l.toArray true (Array.replicate l.length false)=true)(hev:t.even true l.length=true)(hsel:Region.noSelect l.toArray=true)(hno:nS K l=true)(hpi:nK K Q)
   (h:D6 P n (Oi P n Q fs) ds X R B Fs l Hk B J true t σ H):AF P n Q ds X R B Fs (.code (.region id l.toArray true)) fs σ H:=λw f hM a ha=>by
 refine wp_region_held (S:=Kp Hk B J) hm ?_;have hM':AW X w.drew f H R B Fs:=hM.call0 (CR.of_ext AY.drew hM.val);have:=Lc (P:=P) (n:=n) (Q:=Oi P n Q fs) hsel (Qg hpi fs) hno l.length t (Array.replicate l.length false) a w.drew hev hok (hM'.kp (Kq hk) hJ) (h w.drew f hM' a ha);simpa using this
end
variable {args:Array Value}{f:Fq}{fn:Func}{fid:FuncId}{cv:List Value}{M:Nat→Prop}{x:Operand}{w:World}
theorem fZ{b1 b2 b3:Nat}{l1 l2 l3:List Value}{T1 T2 T3:TypeId}(hv:Vl w f)(h1:AT w b1 l1 T1)(h2:AT w b2 l2 T2)(h3:AT w b3 l3 T3)(hf:f b1=0∧f b2=0∧f b3=0)(hn:b1≠b2∧b1≠b3∧b2≠b3) :
   AW ⟨λb=>b=b1∨b=b2∨b=b3,λ_=>False,λ_ _=>True,w,f⟩ w f [⟨b1,l1,T1,false⟩,⟨b2,l2,T2,false⟩,⟨b3,l3,T3,false⟩] [] [] [] where
 stp:=MF.refl _ _
 old _ _:=rfl
 val:=hv
 ent:=J1.refl _ _
 res:=trivial
 stab _ _ _ _ _ _ _:=trivial
 mi _ h:=h.elim
 blk e h:=by
   rcases List.mem_cons.1 h with rfl|h
   · exact h1
   rcases List.mem_cons.1 h with rfl|h
   · exact h2
   rcases List.mem_cons.1 h with rfl|h
   · exact h3
   cases h
 row _ h:=by cases h
 nd:=by simp[CZ,hn.1,hn.2.1,hn.2.2]
 own b h:=by
   simp[CZ] at h;rcases h with rfl|rfl|rfl
   · exact⟨hf.1,.inr (.inl rfl),λh=>h⟩
   · exact⟨hf.2.1,.inr (.inr (.inl rfl)),λh=>h⟩
   · exact⟨hf.2.2,.inr (.inr (.inr rfl)),λh=>h⟩
 hnw e h hh:=by
   rcases List.mem_cons.1 h with rfl|h
   · cases hh
   rcases List.mem_cons.1 h with rfl|h
   · cases hh
   rcases List.mem_cons.1 h with rfl|h
   · cases hh
   cases h
 rnw _ h:=by cases h
 fro _ h:=by cases h
 fac _ h:=by cases h
 mono _ h:=by cases h
def Vk(P:Program)(fn:Func)(K:List Nat)(R:Ending→World→Prop):Bm :=
 {q:=(VK P fn R).q,
   p:=λc σ ds w=>∀tmps:Array Value,(∀t,t∈K→∀v,σ t=some v→tmps.getD t undef=v)→Leaves P fn tmps R ds (.panicking c) w}
theorem Fu{P:Program}{K:List Nat}{R:Ending→World→Prop}:nK K (Vk P fn K R):=λ_ _ _ _ _ hk h tmps ht=>h tmps λt hm v hv=>ht t hm v ((hk t hm).trans hv)
theorem lJ{P:Program}{n:Nat}{X:Cx}{H:List HB}{R:List RB}{B:List FB}{Fs:List (World→Fq→Prop)}{c:Code}{l:List Value}{R0:Ending→World→Prop}{K:List Nat}(hf:P.funcs[fid]?=some fn)(hb:fn.body=some c)(hn:fn.ntmps=n)(hl:Nat.ble l.length n=true)(hM:AW X w f H R B Fs)
   (h:AF P n (Vk P fn K R0) [] X R B Fs (.code c) [] (I6 l 0) H):Calls P fid l.toArray w R0:=by
 refine calls_of_wp_defers hf hb ?_;rw[hn];refine wp_mono (h w f hM _ (JM hl)) λe a w' he=>?_
 cases e with
 |normal=>obtain⟨σ,ds,hs,hq⟩:=he;show Leaves _ _ _ _ a.defers _ _;rw[hs.defs];exact hq _ hs.val
 |ret=>obtain⟨σ,ds,hs,hq⟩:=he;show Leaves _ _ _ _ a.defers _ _;rw[hs.defs];exact hq _ hs.val
 |panic c=>obtain⟨σ,ds,hs,hq⟩:=he;show Leaves _ _ _ _ a.defers _ _;rw[hs.defs];exact hq _ λt _ v hv=>hs.val t v hv
 |outgrown=>exact he.elim
 |exit i=>obtain⟨σ,ds,hs,hq⟩:=he;exact hq.elim
 |goto i=>obtain⟨σ,ds,hs,hq⟩:=he;exact hq.elim
section
variable{P:Program}{n:Nat}{Q:Bm}{ds:List Deferred}{X:Cx}{R:List RB}{B:List FB}{Fs:List (World→Fq→Prop)}{fs:List Fr}{σ:Br}{H:List HB}
variable{all r:List Oper}{ty T:TypeId}{pos:String}{af:Array Edge}{g:Option (Nat×Bool)}{d:Nat}
theorem vU{f:FuncId}{ts:Array TypeId}(hg:gd all σ g=some true)(hx:ev σ x=some (.func (.func f) #[] cv.toArray))
   (h:AF P n Q ({target:=.fn (.func f) cv.toArray,args:=#[]}::ds) X R B Fs (.ops all r) fs σ H):AF P n Q ds X R B Fs (.ops all (⟨none,.defer {callee:=.value x,args:=#[],argTypes:=ts},ty,pos,af,g⟩::r)) fs σ H:=λw f hM =>
 BG hg (OV hx (h w f hM))
theorem XE{op:Op}{α:Type}{val:α→Value}{q:α→Prop}{I':α→World→Fq→Prop}{F':α→List (World→Fq→Prop)}{pe:SP.Er→Prop}
   (hg:gd all σ g=some true) (hd:Nat.blt d n=true) (he:∀w,Enters P σ op ty w fid args) (hs:∀b,M b→X.MI b)
   (hc:∀w f,AW X w f H R B Fs→BS P fid args w (Fv val q X.MI I' F' w f) (SP.PanE T M pe w f)) (hst:∀x,GH X.MI (I' x)) (hm:∀x,Af (F' x))
   (hp:∀er w' f',pe er→CR X.M X.w0 X.f0 w' f'→(∀e,e∈H→AT w' e.b e.l e.T∧f' e.b=0∧(e.nw=true→X.w0.heap.size≤e.b))→Q.p (SP.trI T er) σ ds w')
   (h:∀x,q x→AF P n Q ds {X with I:=I' x} R B (F' x++Fs) (.ops all r) fs (AL σ d (val x)) H):AF P n Q ds X R B Fs (.ops all (⟨some d,op,ty,pos,af,g⟩::r)) fs σ H :=
 OM (XX:=λc w'=>∃er f',c=SP.trI T er∧pe er∧CR X.M X.w0 X.f0 w' f'∧∀e,e∈H→AT w' e.b e.l e.T∧f' e.b=0∧(e.nw=true→X.w0.heap.size≤e.b)) hg hd he (λw f hM=>(hc w f hM).mono (λ_ _ h=>h) λ_ w' ⟨er,f',h1,h2,h3⟩=>by
   have hM':=hM.callI (I':=λ_ _=>True) (h3.mono hs) tQ (λ_ _ _ _ _ _ _=>trivial);exact⟨er,f',h1,h2,hM'.exm,λe he=>⟨hM'.blk e he,(hM'.own e.b (List.mem_append.2 (.inl (List.mem_map.2 ⟨e,he,rfl⟩)))).1,hM'.hnw e he⟩⟩) hst hm (λ_ _ _ _ _ ⟨er,f',h1,h2,h3,h4⟩=>h1▸hp er _ f' h2 h3 h4) h
end
open Go.SP (Rc)
section
variable{P:Program}{n:Nat}{Q:Bm}{ds:List Deferred}{X:Cx}{R:List RB}{B:List FB}{Fs:List (World→Fq→Prop)}{fs:List Fr}{σ:Br}{H:List HB}
variable{all r:List Oper}{ty T:TypeId}{pos:String}{af:Array Edge}{g:Option (Nat×Bool)}{d:Nat}{op:Op}{fid:FuncId}{args:Array Value}{α:Type}
variable {pe:Int×Int→Prop}{xs:List Value}{k:Nat}{e:TypeId}
theorem pM{val:α→Value}{q:α→Prop}{F':α→List (World→Fq→Prop)}
   (hg:gd all σ g=some true) (hd:Nat.blt d n=true) (he:∀w,Enters P σ op ty w fid args)
   (hc:∀w f,AW X w f H R B Fs→BS P fid args w (BW val q F' w f) (Sx T pe w f)) (hm:∀x,Af (F' x))
   (hp:∀e w' f',pe e→CR X.M X.w0 X.f0 w' f'→(∀e,e∈H→AT w' e.b e.l e.T∧f' e.b=0∧(e.nw=true→X.w0.heap.size≤e.b))→Q.p (Rc T e) σ ds w')
   (h:∀x,q x→AF P n Q ds X R B (F' x++Fs) (.ops all r) fs (AL σ d (val x)) H):AF P n Q ds X R B Fs (.ops all (⟨some d,op,ty,pos,af,g⟩::r)) fs σ H:=λw f hM=>by
 refine BG hg (Ck hd (he w) (hc w f hM) ?_ ?_)
 · rintro v w' ⟨x,f',rfl,hq,hE,hF⟩
   exact h x hq w' f' ((hM.call0 hE).more (B':=[]) (λ_ h=>by cases h) hF.mem (hm x).mem)
 · rintro c w' ⟨e,f',rfl,hq,hE⟩
   rw[M6];have hM':=hM.call0 hE;exact hp e w' f' hq hM'.exm λe he=>⟨hM'.blk e he,(hM'.own e.b (List.mem_append.2 (.inl (List.mem_map.2 ⟨e,he,rfl⟩)))).1,hM'.hnw e he⟩
theorem xC{size:Nat}{val:Option Addr→Nat→Value}(hg:gd all σ g=some true)(hd:Nat.blt d n=true)(he:∀w,Enters P σ op ty w fid args)
   (hc:∀w f,AW X w f H R B Fs→BC P fid args w λv w'=>∃a c,v=val a c∧(Co w' e size a c k xs∧∀b,rb a=some b→w.heap.size≤b)∧AY w w')
   (h:∀a c,AF P n Q ds X (⟨e,size,a,c,k,xs⟩::R) B Fs (.ops all r) fs (AL σ d (val a c)) H):AF P n Q ds X R B Fs (.ops all (⟨some d,op,ty,pos,af,g⟩::r)) fs σ H:=λw f hM=>by
 refine BG hg (Ck hd (he w) (BC.retP (X:=λ_ _=>False) (hc w f hM)) ?_ (λ_ _ h=>False.elim h));rintro v w' ⟨a,c,rfl,⟨hr,hb⟩,hE⟩;exact h a c w' f (hM.addRow (CR.of_ext hE hM.val) hr λb hb'=>⟨hb b hb',hM.val b (hb b hb')⟩)
end
end Go.SW
namespace Go.SP
open Go.SW Go.RowKit
def fW(w w':World)(f:Fq):Fq:=λb=>if b<w.heap.size then f b else match w'.heap[b]? with|some (.cells l _)=>l.size|_=>0
variable {f:Fq}{l:List Value}{b off:Nat}{a:Option Addr}{w w':World}
theorem cM(hE:AY w w'):CR (λ_=>False) w f w' (fW w w' f) where
 stp:=MF.of_ext hE
 old b hb:=by unfold fW;rw[if_pos hb]
 val b hb:=by
   unfold fW;rw[if_neg (by have:=hE.size;omega),Array.getElem?_eq_none hb]
theorem lY{L r:List Value}{T:TypeId}(hb:AT w' b L T)(hn:w.heap.size≤b)(hd:L.drop off=l++r):Cs w' (fW w w' f) b off l:=λj v hj=>by
 have h1:L[off+j]?=some v:=by
   rw[← List.getElem?_drop,hd];obtain⟨h,_⟩:=List.getElem?_eq_some_iff.1 hj;rw[List.getElem?_append_left h];exact hj
 obtain⟨h2,_⟩:=List.getElem?_eq_some_iff.1 h1;have hb':w'.heap[b]?=some (.cells L.toArray T):=hb;refine⟨?_,?_⟩
 · unfold fW
   rw[if_neg (by omega),hb'];simpa using h2
 · rw[hb.cell,h1]
theorem HH.frz:∀(k:Fo)(b off:Nat)(L l:List Value)(T:TypeId),AT w' b L T→w.heap.size≤b→L.drop off=l→HH (λb=>w.heap.size≤b) w' k l→XA w' (fW w w' f) k b off
 |.nil,_,_,_,_,_,_,_,_,_=>trivial
 |.cons t k r,b,off,L,l,T,hb,hn,hd,⟨a,n,c,l',h1,⟨h2,h3,h4⟩,h5⟩=>by
   subst h1;refine⟨⟨a,c,lY (r:=l') hb hn (by rw[hd,h2];rfl),oM,?_⟩,HH.frz r b (off+6) L l' T hb hn (by rw[← List.drop_drop,hd];rfl) h5⟩;rcases h4 with h4|⟨b',off',l2,T2,hu,ha,hb2,hc⟩
   · left
     cases k with
     |nil=>rfl
     |cons _ _ _=>rw[h4] at h2;cases h2
   · exact .inr ⟨b',off',ha,HH.frz k b' off' l2 _ T2 hb2 hu rfl hc⟩
theorem EN.frz{c:Nat}{k:Fo}(h:EN (λb=>w.heap.size≤b) w' a k.len c k):Bx w' (fW w w' f) k a c:=by
 obtain⟨h1,h2,h3⟩:=h;refine⟨h2,?_⟩;rcases h3 with h3|⟨b,off,l,T,hu,ha,hb,hc⟩
 · left
   cases k with
   |nil=>rfl
   |cons _ _ _=>cases h3
 · exact .inr ⟨b,off,ha,HH.frz k b off l _ T hb hu rfl hc⟩
def Sm(p:Nd×Int×Int×Int)(w:World)(f:Fq)(v:Value)(w':World):Prop :=
 ∃f' a c,CR (λ_=>False) w f w' f'∧v=.tuple #[.slice a p.1.len c,.agg #[.int .i64 p.2.1,.int .i64 p.2.2.1],.int .i64 p.2.2.2]∧AK w' f' p.1 a c
end Go.SP
