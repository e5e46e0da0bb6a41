/- InferBig: of every number the law answers true -/
import Derived.Test.YtplnpgpagkpnmaaGreatDoorGb6
import Derived.ChangeMaps5
set_option linter.unusedVariables false
set_option linter.unusedSimpArgs false
namespace Go.SP
open Go.SW Go.RowKit
def plC(p:Int×Int):List Value:=[.int .i64 p.1,.int .i64 p.2]
def nP(k:Nat):List (Int×Int):=(List.range k).map λ(i:Nat)=>(1,(i:Int)+1)
theorem dP(k:Nat):nP (k+1)=nP k++[(1,(k:Int)+1)]:=by simp[nP,List.range_succ]
theorem oF(k:Nat):(nP k).length=k:=by simp[nP]
variable {f:Fq}{b i k m n:Nat}{w:World}{src:lU}
theorem jX(h:i<k):(nP k)[i]?=some (1,(i:Int)+1):=by simp[nP,h]
theorem Sq{α:Type}{g:α→List Value}(k:Nat)(d:∀x,(g x).length=k):∀l:List α,(l.flatMap g).length=l.length*k
 | []=>by simp
 |x::l=>by rw[List.flatMap_cons,List.length_append,d,Sq k d l,List.length_cons,Nat.add_mul];omega
theorem HV{α:Type}{g:α→List Value}(l:List α)(x:α):(l++[x]).flatMap g=l.flatMap g++g x:=by simp
def pM(k m:Nat):List Value:=(nP k).flatMap plC++EZ m [.int .i64 0,.int .i64 0]
theorem nN(k m:Nat):DI (pM k (m+1)) (k*2) [.int .i64 1,.int .i64 ((k:Int)+1)]=pM (k+1) m:=by
 unfold pM;have h:((nP k).flatMap plC).length=k*2:=by rw[Sq 2 (λ_=>C),oF]
 rw[dP,HV,← h,EZ];exact NR _ _ _ _ C
theorem nZ(h:Cs w f b 0 (pM k m))(hi:i<k):Cs w f b (0+i*2) (plC (1,(i:Int)+1)) :=
 Cs.flat plC 2 (λ_=>C) _ _ _ _ (Cs.le h) (jX hi)
theorem XF{w:lU}(h:rC w=true):w=[49]∨∃c t,w=c::t∧w≠[49]∧Eu c=true∧(∀d∈w,(Eu d||I3 d)=true)∧w.length≤40:=by
 rcases Decidable.em (w=[49]) with D|D
 · exact .inl D
 · have G:=WN h
   unfold rC at h;rw[show (w==[49])=false by simpa using D] at h;simp only[Bool.false_or,Bool.and_eq_true,decide_eq_true_eq] at h
   cases w with
   |nil=>cases h.1
   |cons c t =>
     have F:(Eu c&&t.all λc=>Eu c||I3 c)=true:=h.1;simp only[Bool.and_eq_true] at F;exact .inr ⟨c,t,C,D,F.1,G,h.2⟩
theorem iJ{c:UInt8}{s:lU}(h:IM c=false):0<(Gh (c::s)).length:=by
 unfold Gh;rw[h];exact Nat.succ_pos _
theorem YC{c:UInt8}(h:rB c=true):c=32∨c=40∨c=41∨(IM c=false∧(Eu c||I3 c)=true):=by
 unfold rB at h
 cases he:IM c with
 |true =>
   unfold IM at he;simp only[Bool.or_eq_true,beq_iff_eq] at he;rcases he with (d|d)|d
   · exact .inl d
   · exact .inr (.inl d)
   · exact .inr (.inr (.inl d))
 |false=>rw[he] at h;exact .inr (.inr (.inr ⟨C,h⟩))
theorem RG{c:UInt8}(h:rB c=true):c.toNat≠9∧c.toNat≠10∧c.toNat≠34∧c.toNat≠59:=by
 rcases YC h with rfl|rfl|rfl|⟨_,h⟩
 · decide
 · decide
 · decide
 · unfold Eu I3 at h
   simp only[Bool.or_eq_true,Bool.and_eq_true,decide_eq_true_eq] at h;omega
theorem JD{c:UInt8}(h:Eu c=true):97≤c.toNat∧c.toNat≤122:=by
 unfold Eu at h;simpa using h
theorem sB{c:UInt8}(h:(Eu c||I3 c)=true):(97≤c.toNat∧c.toNat≤122)∨(48≤c.toNat∧c.toNat≤57):=by
 unfold Eu I3 at h;simpa using h
theorem jP{l:List AB}(h:Ci n i (src.drop i)=some l)(hi:i<src.length):∃c,src[i]?=some c∧src.drop i=c::src.drop (i+1):=⟨src[i],List.getElem?_eq_getElem hi,List.drop_eq_getElem_cons hi⟩
theorem HP:∀(n i:Nat)(s:lU)(l:List AB),Ci n i s=some l→l.length≤s.length
 |0,i,s,l,h=>by
   unfold Ci at h
   cases s with
   |nil=>simp at h;subst h;exact Nat.le_refl _
   |cons _ _=>simp at h
 |n+1,i,[],l,h=>by cases h;exact Nat.le_refl _
 |n+1,i,c::s,l,h=>by
   unfold Ci at h
   split at h
   · have:=HP n _ s l h;simp only[List.length_cons];omega
   · split at h
     · obtain⟨d,D,rfl⟩:=Option.map_eq_some_iff.1 h
       have:=HP n _ s d D;simp only[List.length_cons];omega
     · split at h
       · obtain⟨d,D,rfl⟩:=Option.map_eq_some_iff.1 h
         have:=HP n _ s d D;simp only[List.length_cons];omega
       · rename_i D G J
         split at h
         · obtain⟨d,K,rfl⟩:=Option.map_eq_some_iff.1 h
           have F:=HP n _ _ d K;have L:0<(Gh (c::s)).length:=iJ (by unfold IM;rw[Bool.eq_false_iff.2 D,Bool.eq_false_iff.2 G,Bool.eq_false_iff.2 J];rfl);rw[List.length_drop] at F;simp only[List.length_cons] at F ⊢;omega
         · cases h
theorem Fo.app_one:∀(x:Fo)(t:AB)(k r:Fo),(x.app (.cons t k .nil)).app r=x.app (.cons t k r)
 |.nil,_,_,_=>rfl
 |.cons a b x,t,k,r=>by show Fo.cons a b ((x.app _).app r)=Fo.cons a b (x.app _);rw[Fo.app_one x t k r]
theorem Fo.app_nil1:∀x:Fo,x.app .nil=x
 |.nil=>rfl
 |.cons a b x=>by show Fo.cons a b (x.app .nil)=_;rw[Fo.app_nil1 x]
theorem Fo.len_app1:∀x y:Fo,(x.app y).len=x.len+y.len
 |.nil,y=>(Nat.zero_add _).symm
 |.cons a b x,y=>by show (x.app y).len+1=x.len+1+y.len;rw[Fo.len_app1 x y];omega
theorem bP{c:UInt8}{s:lU}(h:Eu c=true):((c::s).take 1==[39])=false:=by
 have:=JD h;have d:c≠39:=λe=>by rw[e] at this;exact absurd this.1 dC
 simpa using d
theorem sQ{c:UInt8}{s:lU}(h:Eu c=true):((c::s)==[95])=false:=by
 have:=JD h;have d:c≠95:=λe=>by rw[e] at this;exact absurd this.1 dC
 simp[d]
theorem Rf{l:List AB}{t:AB}{r:List AB}(h:IC k (l.drop i)=0)(hd:l.drop i=t::r):IC (if t.k==0 then k+1 else if t.k==1 then k-1 else k) (l.drop (i+1))=0:=by
 rw[hd] at h;rw[(Yp hd).2.1];exact h
end Go.SP
namespace Go.SP
open Go.SW Go.RowKit
theorem zC(c d:UInt8):((c.toNat:Int)==(d.toNat:Int))=(c==d):=by
 rw[Bool.eq_iff_iff];simp only[beq_iff_eq];exact⟨λh=>UInt8.toNat_inj.1 oM,λh=>by rw[h]⟩
theorem Pe(c:UInt8):IM c=(((c.toNat:Int)==32)||((c.toNat:Int)==40)||((c.toNat:Int)==41)):=by
 unfold IM;rw[← zC c 32,← zC c 40,← zC c 41];rfl
variable {σ:AW}{i j n:Nat}{hi lo x:Operand}{P:Program}{T ty:TypeId}{w:World}{src:lU}
theorem TR{l:List AB}(h:Ci n i (src.drop i)=some l){c:UInt8}(d:src[i+j]?=some c):rB c=true:=by
 refine H9 _ _ _ _ h c (List.mem_of_getElem? (i:=j) ?_);rw[List.getElem?_drop];exact d
theorem fC{l:List AB}{c:UInt8}(h:Ci n i (src.drop i)=some l)(J:src[i]?=some c)(he:IM c=false) :
   ∃m d,rC (Gh (src.drop i))=true∧Ci m (i+(Gh (src.drop i)).length) (src.drop (i+(Gh (src.drop i)).length))=some d∧l=Uo (Gh (src.drop i)) i::d∧i+(Gh (src.drop i)).length≤src.length∧0<(Gh (src.drop i)).length:=by
 obtain⟨hi,K⟩:=List.getElem?_eq_some_iff.1 J;have hd:src.drop i=c::src.drop (i+1):=by rw[List.drop_eq_getElem_cons hi,K]
 have L:=QU (src.drop i);rw[List.length_drop] at L;have O:0<(Gh (src.drop i)).length:=by rw[hd];exact iJ he
 rw[hd] at h;obtain⟨m,d,F,D,G⟩:=jO h he;rw[← hd] at F D G;rw[List.drop_drop] at D;exact⟨m,d,F,D,G,oM,O⟩
theorem wd_go{c:UInt8}(h:j≤(Gh (src.drop i)).length)(F:src[i+j]?=some c)(he:IM c=false):j+1≤(Gh (src.drop i)).length:=by
 rcases Nat.lt_or_ge j (Gh (src.drop i)).length with G|G
 · exact G
 · obtain rfl:j=(Gh (src.drop i)).length:=oM
   have K:=(List.getElem?_eq_some_iff.1 F).1;rcases WU (src.drop i) with D|⟨d,D,J⟩
   · rw[List.length_drop] at D;omega
   · rw[List.getElem?_drop,F] at D
     cases D
     rw[he] at J
     cases J
theorem mE{c:UInt8}(h:j≤(Gh (src.drop i)).length)(J:src[i+j]?=some c)(he:IM c=true):j=(Gh (src.drop i)).length:=by
 rcases Nat.lt_or_ge j (Gh (src.drop i)).length with D|D
 · obtain⟨d,F,G⟩:=bH _ j D
   rw[List.getElem?_drop,J] at F
   cases F
   rw[he] at G
   cases G
 · omega
theorem xI(h:j≤(Gh (src.drop i)).length)(D:src.length≤i+j):j=(Gh (src.drop i)).length:=by
 have d:=QU (src.drop i);rw[List.length_drop] at d;omega
theorem xF:(src.take ((i+(Gh (src.drop i)).length:Nat):Int).toNat).drop ((i:Nat):Int).toNat=Gh (src.drop i):=by
 rw[Int.toNat_natCast,Int.toNat_natCast,List.drop_take,Nat.add_sub_cancel_left,N0]
theorem tkR_c(w:lU)(i:Nat):Y3 (Uo w i)=[.int .i64 (Uo w 0).k,.int .i64 1,.int .i64 ((i:Int)+1),.int .i64 (Uo w 0).nm,S (Uo w 0).tx]:=by
 unfold Uo
 split <;> rfl
theorem oW{s u:lU}{k1 k2:IntKind}{i j:Int}(F:ev σ x=some (S s))(d:ev σ lo=some (.int k1 i))(D:ev σ hi=some (.int k2 j))(G:P.underlying T=some .string)
   (h:0≤i∧i≤j∧j≤s.length) (e:(s.take j.toNat).drop i.toNat=u):AM P σ (.slice T x (some lo) (some hi) none) ty w (S u) w:=e▸Mr F d D G h
end Go.SP
namespace Go.Proofs.YtplnpgpagkpnmaaGreatDoor
open Go.SW Go.SP Go.RowKit Go.Proofs.Tryz
abbrev A8:=Nat×Nat×Nat×Nat×T1×oA×Nat
def e8(d:oA)(nl nc b1 b3 h D m F i:Nat)(p:MJ)(ka:oA)(kc:Nat)(S:List Nat)(x:A8):AW :=
 sU (H3 S 7) 74 (.agg #[Go.SW.S p.1,iV x.2.2.2.2.1.op,iV x.2.2.2.2.1.num,Go.SW.S x.2.2.2.2.1.tx,.slice x.2.2.2.2.2.1 x.2.2.2.2.1.kids.len x.2.2.2.2.2.2,.slice (some ⟨x.2.2.1,0,none⟩) 1 1])<|sU (H3 S 6) 10 (pB x.2.2.2.1)<|sU (H3 S 5) 73 (.slice (some ⟨x.2.2.1,0,none⟩) 1 1)<|sU (H3 S 4) 72 (tV x.2.2.2.2.1 x.2.2.2.2.2.1 x.2.2.2.2.2.2)<|sU (H3 S 3) 71 (.slice (some ⟨x.2.1,0,none⟩) 1 1)<|sU (H3 S 2) 70 (tV (.var (-1000)) none 0)<|sU (H3 S 1) 69 (.slice (some ⟨x.1,0,none⟩) 1 1) <|
 E7 0 (.slice d nl nc) 3 (pB b1) 5 (pB b3) 8 (.slice (some ⟨h,D,none⟩) m F) 9 (iV (i:Int)) 63 (Go.SW.S p.1) 68 (tV p.2.2 ka kc)
def h8(b1 b2 b3 b7 i rc:Nat)(d:oA)(S:List Nat)(x:A8):List HB :=
 sL (H3 S 6) ⟨x.2.2.2.1,[.string ⟨#[]⟩,iV 0,iV 0,.string ⟨#[]⟩,.slice none 0 0,.slice none 0 0],87,true⟩<|sL (H3 S 5) ⟨x.2.2.1,[iV (-1000)],3,true⟩<|sL (H3 S 3&&!H3 S 4) ⟨x.2.1,tC (.var (-1000)) none 0,75,true⟩<|sL (H3 S 1&&!H3 S 4) ⟨x.1,[iV 1],3,true⟩ [⟨b3,[pB b2,(.slice d i rc),(.slice (some ⟨b7,0,none⟩) 8 8),(.slice none 0 0),iV 0,iV 0,iV 0],72,true⟩,⟨b1,[iV 0,iV 0],27,true⟩]
def g8(d h i:Nat)(p:MJ)(ka:oA)(kc:Nat)(_:A8):List FB:=[⟨d,h+i*6,gK p ka kc⟩]
def f8(p:MJ)(ka:oA)(kc:Nat)(nd:Nd)(d:oA)(nc:Nat)(h:List MJ)(D F G:Nat)(_:A8):List (wO→Fq→Prop):=[λw f=>Ae w f p.2.2.kids ka kc,λw f=>AJ w f nd d nc,λw f=>NY w f h (some ⟨D,F,none⟩) G]
def KM:OT:=.br 17 .fin .fin
def Mv:OT:=.rd 15 KM
def Jv:OT:=.br 13 Mv .fin
def Nr:OT:=.br 10 Jv .fin
def Lm:OT:=.br 12 Jv .fin
def Rz:OT:=.br 10 Lm (.br 12 Nr .fin)
def R9:OT:=.br 11 Lm .fin
def dS:OT:=.br 10 R9 (.br 11 Rz .fin)
def OZ:OT:=.br 14 Mv .fin
def Na:OT:=.br 13 OZ (.br 14 Jv .fin)
def V0:OT:=.br 10 Na (.br 14 Nr .fin)
def Q5:OT:=.br 12 Na (.br 14 Lm .fin)
def fQ:OT:=.br 10 Q5 (.br 12 V0 (.br 14 Rz .fin))
def fS:OT:=.br 11 Q5 (.br 14 R9 .fin)
def t8_d:OT:=.br 10 fS (.br 11 fQ (.br 14 dS .fin))
def Pz:OT:=.br 16 KM .fin
def ON:OT:=.rd 15 Pz
def MY:OT:=.br 13 ON (.br 16 Jv .fin)
def VV:OT:=.br 10 MY (.br 16 Nr .fin)
def Rk:OT:=.br 12 MY (.br 16 Lm .fin)
def eB:OT:=.br 10 Rk (.br 12 VV (.br 16 Rz .fin))
def hO:OT:=.br 11 Rk (.br 16 R9 .fin)
def t8_c:OT:=.br 10 hO (.br 11 eB (.br 16 dS .fin))
def Xl:OT:=.br 14 ON (.br 16 OZ .fin)
def UR:OT:=.br 13 Xl (.br 14 MY (.br 16 Na .fin))
def qQ:OT:=.br 10 UR (.br 14 VV (.br 16 V0 .fin))
def aV:OT:=.br 12 UR (.br 14 Rk (.br 16 Q5 .fin))
def t8_v:OT:=.br 10 aV (.br 12 qQ (.br 14 eB (.br 16 fQ .fin)))
def t8_a:OT:=.br 11 aV (.br 14 hO (.br 16 fS .fin))
def t8_:OT:=.br 10 t8_a (.br 11 t8_v (.br 14 t8_c (.br 16 t8_d .fin)))
theorem Ks(w:wO)(f:Fq)(hv:Vl w f)(nd:Nd)(U:oA)(nc:Nat)(q:Except Er Unit)(hns:nd.size≤50000)(hq:ZO 100 [] nd=some q)(hN:AJ w f nd U nc) :
  AO prog 7 #[.slice U nd.len nc] w (AF (α:=oA×Nat×Nat) (λx=>.tuple #[.slice x.1 x.2.1 x.2.2,.agg #[iV (KY q).2.1,iV (KY q).2.2],iV (KY q).1]) (λ_=>True) (λ_=>[]) w f):=by
 have hnl9:=Nd.len_le nd;refine Dq [λw f=>AJ w f nd U nc] func7 C C C (AR hv ⟨hN,tQ⟩ ⟨AJ.mono,tQ⟩)<|Aa 18 (λb1=>λb2=>λb3=>λ_=>B3 C C (eC CM C C) (λw f d=>Bq w f d.vl [98,111,111,108] 0 none 0)<|B3 C C (eC CM C C) (λw f d=>Bq w f d.vl [101,120,110] 0 none 0)<|Af 7 [1,0] (λb4=>λb5=>y<|y<|λ_=>Ca [0,1,3,4] Aj (rd [0,1,2,3,4,5,6,7,8,9,10,11,12,13,14,17] (.br 15 (.br 16 (.rd 18 (.br 19 (.rd 20 (.rd 21 (.br 22 .fin .fin))) .fin)) .fin) .fin)) C kR<|Bh 16 [1,1,0,0,0,0,0,0] (y<|y<|y<|y<|y<|y<|y<|y<|λ_=>Ah C<|B3 C C (eC CM C C) (λw f d=>Bq w f d.vl [115,116,114,105,110,103] 0 none 0)<|Aa 1 (λ_=>?_))));refine Am [0,1,3,4] C<|Ah C<|Aa 2 (λb6=>λ_=>Am [1,2,4,5] C<|AN 1 (λ_=>Ah C<|Aa 2 (λb7=>λ_=>Am [2,3,5,6] C<|AN 2 (λ_=>Ah C ?_))));refine Af 2 [4] (y<|λ_=>Am [2,3,5,6] C<|Bp<|Aa 2 (λ_=>Aa 1 (λ_=>BV C C (eC uX C C) (λw f d=>TY w f d.vl) (λx=>⟨NY.mono,tQ⟩) ?_)));rintro⟨pa,W,J⟩ ⟨hps,hPB⟩;dsimp only at hps hPB ⊢;refine Aa 10 (λ_=>KR 87 6 ?_);refine D6 (α:=Nat×lV×oA×Nat) (λx=>J.length-x.1) (λx=>x.1≤J.length∧∀v∈x.2.1,v.oneCell'=true) (λx=>(E5 0 (.slice U nd.len nc) 3 (pB b1) 5 (pB b3) 8 (.slice pa J.length W) 9 (iV (x.1:Int)))) (λx=>X0 w f) (λx=>[⟨b3,[pB b2,(.slice x.2.2.1 x.1 x.2.2.2),(.slice (some ⟨b7,0,none⟩) 8 8),(.slice none 0 0),iV 0,iV 0,iV 0],72,true⟩,⟨b1,[iV 0,iV 0],27,true⟩]) (λx=>[⟨87,6,x.2.2.1,x.2.2.2,x.1,x.2.1⟩]) (λx=>[]) (λx=>[λw f=>AJ w f nd U nc,λw f=>NY w f J pa W]) ((0,[],none,0)) ⟨Nat.zero_le _,λ_ h=>by cases h⟩ lE (λw f d=>d.less (sD (sD (sD (sD (sK (sD (sK sZ))))))) sR nE (mR [1,0])) ?_;rintro⟨i,xs0,Y,rc⟩ ⟨hi,hC1⟩;dsimp only at hi hC1 ⊢;refine Aa 9 (λ_=>?_)
 ·
  refine A6 56 C C (λh1=>?_) (λh1=>?_);refine Aa 6 (λ_=>?_);have hil:i<J.length:=by have:=dT h1;omega
  obtain⟨p,hp⟩:∃p,J[i]?=some p:=⟨_,List.getElem?_eq_getElem hil⟩;have hpb:=hPB p (List.mem_of_getElem? hp);refine Ja (α:=Nat×Nat×oA×Nat) (λx=>pa=some ⟨x.1,x.2.1,none⟩) (λx=>[⟨x.1,x.2.1+i*6,gK p x.2.2.1 x.2.2.2⟩]) (λx=>[λw f=>Ae w f p.2.2.kids x.2.2.1 x.2.2.2]) (λw f d=>let ⟨b,off,ka,kc,h1,h2,h3⟩:=NY.get d.f1 hp;⟨(b,off,ka,kc),h1,(oE h2),AA.mem ⟨h3,tQ⟩⟩) (λx=>Ap.mem ⟨Ae.mono,tQ⟩) ?_;rintro⟨D,F,ka,kc⟩ rfl
  ·
   refine RP (α:=Nat×Nat×T1×oA×Nat) (λx=>True) (λx=>(E6 0 (.slice U nd.len nc) 3 (pB b1) 5 (pB b3) 8 (.slice (some ⟨D,F,none⟩) J.length W) 9 (iV (i:Int)) 10 (pB x.1))) (λx=>X0 w f) (λx=>[⟨x.1,[S p.1,iV x.2.2.1.op,iV x.2.2.1.num,S x.2.2.1.tx,.slice x.2.2.2.1 x.2.2.1.kids.len x.2.2.2.2,.slice (some ⟨x.2.1,0,none⟩) 1 1],87,true⟩,⟨b3,[pB b2,(.slice Y i rc),(.slice (some ⟨b7,0,none⟩) 8 8),(.slice none 0 0),iV 0,iV 0,iV 0],72,true⟩,⟨b1,[iV 0,iV 0],27,true⟩]) (λx=>[⟨87,6,Y,rc,i,xs0⟩]) (λx=>[]) (λx=>[λw f=>Ae w f p.2.2.kids ka kc,λw f=>AJ w f nd U nc,λw f=>NY w f J (some ⟨D,F,none⟩) W]) ?_ ?_;refine Ca [0,1] Aj (rd [0,1,2,3,4,5,6,7,8,9] t8_) C kR<|Bh 10 [100,0,100,2] (aI (by first|omega|(simp only[Nd.len];omega))<|y2<|aI (by first|omega|(simp only[Nd.len];omega))<|y2<|λ_=>CW KM (e8 U nd.len nc b1 b3 D F J.length W i p ka kc [1,2,3,4,5,7,6]) (h8 b1 b2 b3 b7 i rc Y [1,2,3,4,5,7,6]) (g8 D F i p ka kc) (f8 p ka kc nd U nc J D F W) ?_ (λhSavbwcld=>?_))
   ·
    rintro⟨O,bB,bC,Q,G,K,L⟩;exact Ah C<|Af 2 [0] (y<|λ_=>Am [2,3] C<|Bp<|Ph (Q,bC,G,K,L) tQ lE (λw f d=>⟨f,d.less (sK (sD (sK (sK sZ)))) sR nE (λ_ h=>h)⟩))
   refine CW Mv (e8 U nd.len nc b1 b3 D F J.length W i p ka kc [1,2,3,4,5,6]) (h8 b1 b2 b3 b7 i rc Y [1,2,3,4,5,6]) (g8 D F i p ka kc) (f8 p ka kc nd U nc J D F W) ?_ (λhSavbwcd=>?_)
   ·
    rintro⟨O,bB,bC,Q,G,K,L⟩;exact AN 1 (λ_=>AX hSavbwcld (O,bB,bC,Q,G,K,L) lE (λw f d=>d))
   refine CW Pz (e8 U nd.len nc b1 b3 D F J.length W i p ka kc [1,2,3,4,5,7]) (h8 b1 b2 b3 b7 i rc Y [1,2,3,4,5,7]) (g8 D F i p ka kc) (f8 p ka kc nd U nc J D F W) ?_ (λhSavbwcl=>?_)
   ·
    rintro⟨O,bB,bC,Q,G,K,L⟩;exact Ah C<|Aa 2 (λq=>λ_=>Am [2,3] C<|AX hSavbwcld (O,bB,bC,q,G,K,L) lE (λw f d=>d))
   refine CW Jv (e8 U nd.len nc b1 b3 D F J.length W i p ka kc [1,2,3,5,6]) (h8 b1 b2 b3 b7 i rc Y [1,2,3,5,6]) (g8 D F i p ka kc) (f8 p ka kc nd U nc J D F W) ?_ (λZ=>?_)
   ·
    rintro⟨O,bB,bC,Q,G,K,L⟩;refine Ah C<|CJ 3 C C<|CJ 2 C C<|BV C C (eC K6 C C) (λw f d=>Fe _ w f d.vl [1] (some ⟨O,0,none⟩) 1 (T1.var (-1000)).one (some ⟨bB,0,none⟩) 1 dC dC ⟨Nat.le_refl _,.inr ⟨O,0,C,d.b1⟩⟩ (BD (l:=[(.var (-1000),none,0)]) ⟨Ae.nil _ _ _ _,tQ⟩ d.b0) p.2.2 ka kc (Nat.lt_succ_self _) hpb d.f0) (λ_=>⟨Ae.mono,tQ⟩) ?_;rintro⟨y9,za,zc⟩ -;exact Aa 1 (λ_=>AS [2,3] DG C (λ_ h=>.tail _ (.tail _ h))<|AX hSavbwcd (O,bB,bC,Q,y9,za,zc) lE (λw f d=>d.less sR sR (λ_ h=>.tail _ (.tail _ h)) (λφ h=>.tail _ h)))
   refine CW ON (e8 U nd.len nc b1 b3 D F J.length W i p ka kc [1,2,3,4,5]) (h8 b1 b2 b3 b7 i rc Y [1,2,3,4,5]) (g8 D F i p ka kc) (f8 p ka kc nd U nc J D F W) ?_ (λhSavbwc=>?_)
   ·
    rintro⟨O,bB,bC,Q,G,K,L⟩;exact AN 1 (λ_=>AX hSavbwcl (O,bB,bC,Q,G,K,L) lE (λw f d=>d))
   refine CW OZ (e8 U nd.len nc b1 b3 D F J.length W i p ka kc [1,2,3,4,6]) (h8 b1 b2 b3 b7 i rc Y [1,2,3,4,6]) (g8 D F i p ka kc) (f8 p ka kc nd U nc J D F W) ?_ (λhSavbwd=>?_)
   ·
    rintro⟨O,bB,bC,Q,G,K,L⟩;exact Ah C<|Aa 2 (λq=>λ_=>Am [2,3] C<|AX hSavbwcd (O,bB,q,Q,G,K,L) lE (λw f d=>d.perm (List.perm_middle (l₁:=[_]))))
   refine CW MY (e8 U nd.len nc b1 b3 D F J.length W i p ka kc [1,2,3,5]) (h8 b1 b2 b3 b7 i rc Y [1,2,3,5]) (g8 D F i p ka kc) (f8 p ka kc nd U nc J D F W) ?_ (λhSavbc=>?_)
   ·
    rintro⟨O,bB,bC,Q,G,K,L⟩;refine Bj C ?_ ?_;refine CJ 2 C C<|CJ 1 C C<|BV C C (eC K6 C C) (λw f d=>Fe _ w f d.vl [1] (some ⟨O,0,none⟩) 1 (T1.var (-1000)).one (some ⟨bB,0,none⟩) 1 dC dC ⟨Nat.le_refl _,.inr ⟨O,0,C,d.b1⟩⟩ (BD (l:=[(.var (-1000),none,0)]) ⟨Ae.nil _ _ _ _,tQ⟩ d.b0) p.2.2 ka kc (Nat.lt_succ_self _) hpb d.f0) (λ_=>⟨Ae.mono,tQ⟩) ?_;rintro⟨y9,za,zc⟩ -;exact Aa 1 (λ_=>AS [1,2] DG C (λ_ h=>.tail _ (.tail _ h))<|AX hSavbwc (O,bB,bC,Q,y9,za,zc) lE (λw f d=>d.less sR sR (λ_ h=>.tail _ (.tail _ h)) (λφ h=>.tail _ h)));exact Ah C<|Aa 2 (λq=>λ_=>Am [4,5] C<|AX Z (O,bB,bC,q,G,K,L) lE (λw f d=>d))
   refine CW Na (e8 U nd.len nc b1 b3 D F J.length W i p ka kc [1,2,3,6]) (h8 b1 b2 b3 b7 i rc Y [1,2,3,6]) (g8 D F i p ka kc) (f8 p ka kc nd U nc J D F W) ?_ (λhSavbd=>?_)
   ·
    rintro⟨O,bB,bC,Q,G,K,L⟩;refine Bj C ?_ ?_;refine CJ 2 C C<|CJ 1 C C<|BV C C (eC K6 C C) (λw f d=>Fe _ w f d.vl [1] (some ⟨O,0,none⟩) 1 (T1.var (-1000)).one (some ⟨bB,0,none⟩) 1 dC dC ⟨Nat.le_refl _,.inr ⟨O,0,C,d.b1⟩⟩ (BD (l:=[(.var (-1000),none,0)]) ⟨Ae.nil _ _ _ _,tQ⟩ d.b0) p.2.2 ka kc (Nat.lt_succ_self _) hpb d.f0) (λ_=>⟨Ae.mono,tQ⟩) ?_;rintro⟨y9,za,zc⟩ -;exact Aa 1 (λ_=>AS [1,2] DG C (λ_ h=>.tail _ (.tail _ h))<|AX hSavbwd (O,bB,bC,Q,y9,za,zc) lE (λw f d=>d.less sR sR (λ_ h=>.tail _ (.tail _ h)) (λφ h=>.tail _ h)));exact Ah C<|Aa 2 (λq=>λ_=>Am [4,5] C<|AX Z (O,bB,q,Q,G,K,L) lE (λw f d=>d.perm (List.perm_middle (l₁:=[_]))))
   refine CW Xl (e8 U nd.len nc b1 b3 D F J.length W i p ka kc [1,2,3,4]) (h8 b1 b2 b3 b7 i rc Y [1,2,3,4]) (g8 D F i p ka kc) (f8 p ka kc nd U nc J D F W) ?_ (λhSavbw=>?_)
   ·
    rintro⟨O,bB,bC,Q,G,K,L⟩;refine Bj C ?_ ?_;exact Aa 2 (λq=>λ_=>Am [1,2] C<|AX hSavbwc (O,bB,q,Q,G,K,L) lE (λw f d=>d));exact Ah C<|Aa 2 (λq=>λ_=>Am [1,2] C<|AX hSavbwd (O,bB,bC,q,G,K,L) lE (λw f d=>d))
   refine CW Lm (e8 U nd.len nc b1 b3 D F J.length W i p ka kc [1,2,5,6]) (h8 b1 b2 b3 b7 i rc Y [1,2,5,6]) (g8 D F i p ka kc) (f8 p ka kc nd U nc J D F W) ?_ (λhSavcd=>?_)
   ·
    rintro⟨O,bB,bC,Q,G,K,L⟩;exact Ah C<|Aa 2 (λq=>λ_=>Am [4,5] C<|AX Z (O,q,bC,Q,G,K,L) lE (λw f d=>d.perm (List.perm_middle (l₁:=[_,_]))))
   refine CW Nr (e8 U nd.len nc b1 b3 D F J.length W i p ka kc [2,3,5,6]) (h8 b1 b2 b3 b7 i rc Y [2,3,5,6]) (g8 D F i p ka kc) (f8 p ka kc nd U nc J D F W) ?_ (λhSvbcd=>?_)
   ·
    rintro⟨O,bB,bC,Q,G,K,L⟩;exact Ah C<|Aa 2 (λq=>λ_=>Am [4,5] C<|AX Z (q,bB,bC,Q,G,K,L) lE (λw f d=>d.perm (List.perm_middle (l₁:=[_,_,_]))))
   refine CW R9 (e8 U nd.len nc b1 b3 D F J.length W i p ka kc [1,5,6]) (h8 b1 b2 b3 b7 i rc Y [1,5,6]) (g8 D F i p ka kc) (f8 p ka kc nd U nc J D F W) ?_ (λhSacd=>?_)
   ·
    rintro⟨O,bB,bC,Q,G,K,L⟩;exact Ah C<|B3 C C (eC Iz C C) (λw f d=>DQ w f d.vl (-1000))<|Aa 1 (λ_=>Am [3,4] C<|AX hSavcd (O,bB,bC,Q,G,K,L) lE (λw f d=>d))
   refine CW UR (e8 U nd.len nc b1 b3 D F J.length W i p ka kc [1,2,3]) (h8 b1 b2 b3 b7 i rc Y [1,2,3]) (g8 D F i p ka kc) (f8 p ka kc nd U nc J D F W) ?_ (λhSavb=>?_)
   ·
    rintro⟨O,bB,bC,Q,G,K,L⟩;refine Bj C ?_ ?_;refine CJ 1 C C<|CJ 0 C C<|BV C C (eC K6 C C) (λw f d=>Fe _ w f d.vl [1] (some ⟨O,0,none⟩) 1 (T1.var (-1000)).one (some ⟨bB,0,none⟩) 1 dC dC ⟨Nat.le_refl _,.inr ⟨O,0,C,d.b1⟩⟩ (BD (l:=[(.var (-1000),none,0)]) ⟨Ae.nil _ _ _ _,tQ⟩ d.b0) p.2.2 ka kc (Nat.lt_succ_self _) hpb d.f0) (λ_=>⟨Ae.mono,tQ⟩) ?_;rintro⟨y9,za,zc⟩ -;exact Aa 1 (λ_=>AS [0,1] DG C (λ_ h=>.tail _ (.tail _ h))<|AX hSavbw (O,bB,bC,Q,y9,za,zc) lE (λw f d=>d.less sR sR (λ_ h=>.tail _ (.tail _ h)) (λφ h=>.tail _ h)));refine Bj C ?_ ?_;exact Aa 2 (λq=>λ_=>Am [3,4] C<|AX hSavbc (O,bB,q,Q,G,K,L) lE (λw f d=>d));exact Ah C<|Aa 2 (λq=>λ_=>Am [3,4] C<|AX hSavbd (O,bB,bC,q,G,K,L) lE (λw f d=>d))
   refine CW Rk (e8 U nd.len nc b1 b3 D F J.length W i p ka kc [1,2,5]) (h8 b1 b2 b3 b7 i rc Y [1,2,5]) (g8 D F i p ka kc) (f8 p ka kc nd U nc J D F W) ?_ (λhSavc=>?_)
   ·
    rintro⟨O,bB,bC,Q,G,K,L⟩;refine Bj C ?_ ?_;exact Aa 2 (λq=>λ_=>Am [3,4] C<|AX hSavbc (O,q,bC,Q,G,K,L) lE (λw f d=>d.perm (List.perm_middle (l₁:=[_]))));exact Ah C<|Aa 2 (λq=>λ_=>Am [3,4] C<|AX hSavcd (O,bB,bC,q,G,K,L) lE (λw f d=>d))
   refine CW Q5 (e8 U nd.len nc b1 b3 D F J.length W i p ka kc [1,2,6]) (h8 b1 b2 b3 b7 i rc Y [1,2,6]) (g8 D F i p ka kc) (f8 p ka kc nd U nc J D F W) ?_ (λhSavd=>?_)
   ·
    rintro⟨O,bB,bC,Q,G,K,L⟩;refine Bj C ?_ ?_;exact Aa 2 (λq=>λ_=>Am [3,4] C<|AX hSavbd (O,q,bC,Q,G,K,L) lE (λw f d=>d.perm (List.perm_middle (l₁:=[_]))));exact Ah C<|Aa 2 (λq=>λ_=>Am [3,4] C<|AX hSavcd (O,bB,q,Q,G,K,L) lE (λw f d=>d.perm (List.perm_middle (l₁:=[_]))))
   refine CW VV (e8 U nd.len nc b1 b3 D F J.length W i p ka kc [2,3,5]) (h8 b1 b2 b3 b7 i rc Y [2,3,5]) (g8 D F i p ka kc) (f8 p ka kc nd U nc J D F W) ?_ (λhSvbc=>?_)
   ·
    rintro⟨O,bB,bC,Q,G,K,L⟩;refine Bj C ?_ ?_;exact Aa 2 (λq=>λ_=>Am [3,4] C<|AX hSavbc (q,bB,bC,Q,G,K,L) lE (λw f d=>d.perm (List.perm_middle (l₁:=[_,_]))));exact Ah C<|Aa 2 (λq=>λ_=>Am [3,4] C<|AX hSvbcd (O,bB,bC,q,G,K,L) lE (λw f d=>d))
   refine CW V0 (e8 U nd.len nc b1 b3 D F J.length W i p ka kc [2,3,6]) (h8 b1 b2 b3 b7 i rc Y [2,3,6]) (g8 D F i p ka kc) (f8 p ka kc nd U nc J D F W) ?_ (λhSvbd=>?_)
   ·
    rintro⟨O,bB,bC,Q,G,K,L⟩;refine Bj C ?_ ?_;exact Aa 2 (λq=>λ_=>Am [3,4] C<|AX hSavbd (q,bB,bC,Q,G,K,L) lE (λw f d=>d.perm (List.perm_middle (l₁:=[_,_]))));exact Ah C<|Aa 2 (λq=>λ_=>Am [3,4] C<|AX hSvbcd (O,bB,q,Q,G,K,L) lE (λw f d=>d.perm (List.perm_middle (l₁:=[_]))))
   refine CW Rz (e8 U nd.len nc b1 b3 D F J.length W i p ka kc [2,5,6]) (h8 b1 b2 b3 b7 i rc Y [2,5,6]) (g8 D F i p ka kc) (f8 p ka kc nd U nc J D F W) ?_ (λhSvcd=>?_)
   ·
    rintro⟨O,bB,bC,Q,G,K,L⟩;refine Bj C ?_ ?_;exact Aa 2 (λq=>λ_=>Am [3,4] C<|AX hSavcd (q,bB,bC,Q,G,K,L) lE (λw f d=>d.perm (List.perm_middle (l₁:=[_,_]))));exact Ah C<|Aa 2 (λq=>λ_=>Am [3,4] C<|AX hSvbcd (O,q,bC,Q,G,K,L) lE (λw f d=>d.perm (List.perm_middle (l₁:=[_,_]))))
   refine CW hO (e8 U nd.len nc b1 b3 D F J.length W i p ka kc [1,5]) (h8 b1 b2 b3 b7 i rc Y [1,5]) (g8 D F i p ka kc) (f8 p ka kc nd U nc J D F W) ?_ (λhSac=>?_)
   ·
    rintro⟨O,bB,bC,Q,G,K,L⟩;refine Bj C ?_ ?_;exact B3 C C (eC Iz C C) (λw f d=>DQ w f d.vl (-1000))<|Aa 1 (λ_=>Am [2,3] C<|AX hSavc (O,bB,bC,Q,G,K,L) lE (λw f d=>d));exact Ah C<|Aa 2 (λq=>λ_=>Am [3,4] C<|AX hSacd (O,bB,bC,q,G,K,L) lE (λw f d=>d))
   refine CW fS (e8 U nd.len nc b1 b3 D F J.length W i p ka kc [1,6]) (h8 b1 b2 b3 b7 i rc Y [1,6]) (g8 D F i p ka kc) (f8 p ka kc nd U nc J D F W) ?_ (λhSad=>?_)
   ·
    rintro⟨O,bB,bC,Q,G,K,L⟩;refine Bj C ?_ ?_;exact B3 C C (eC Iz C C) (λw f d=>DQ w f d.vl (-1000))<|Aa 1 (λ_=>Am [2,3] C<|AX hSavd (O,bB,bC,Q,G,K,L) lE (λw f d=>d));exact Ah C<|Aa 2 (λq=>λ_=>Am [3,4] C<|AX hSacd (O,bB,q,Q,G,K,L) lE (λw f d=>d.perm (List.perm_middle (l₁:=[_]))))
   refine CW aV (e8 U nd.len nc b1 b3 D F J.length W i p ka kc [1,2]) (h8 b1 b2 b3 b7 i rc Y [1,2]) (g8 D F i p ka kc) (f8 p ka kc nd U nc J D F W) ?_ (λhSav=>?_)
   ·
    rintro⟨O,bB,bC,Q,G,K,L⟩;refine Bj C ?_ ?_;exact Aa 2 (λq=>λ_=>Am [2,3] C<|AX hSavb (O,q,bC,Q,G,K,L) lE (λw f d=>d));refine Bj C ?_ ?_;exact Aa 2 (λq=>λ_=>Am [2,3] C<|AX hSavc (O,bB,q,Q,G,K,L) lE (λw f d=>d));exact Ah C<|Aa 2 (λq=>λ_=>Am [2,3] C<|AX hSavd (O,bB,bC,q,G,K,L) lE (λw f d=>d))
   refine CW dS (e8 U nd.len nc b1 b3 D F J.length W i p ka kc [5,6]) (h8 b1 b2 b3 b7 i rc Y [5,6]) (g8 D F i p ka kc) (f8 p ka kc nd U nc J D F W) ?_ (λhScd=>?_)
   ·
    rintro⟨O,bB,bC,Q,G,K,L⟩;refine Bj C ?_ ?_;exact Aa 2 (λq=>λ_=>Am [3,4] C<|AX hSacd (q,bB,bC,Q,G,K,L) lE (λw f d=>d.perm (List.perm_middle (l₁:=[_,_]))));exact Ah C<|B3 C C (eC Iz C C) (λw f d=>DQ w f d.vl (-1000))<|Aa 1 (λ_=>Am [2,3] C<|AX hSvcd (O,bB,bC,Q,G,K,L) lE (λw f d=>d))
   refine CW qQ (e8 U nd.len nc b1 b3 D F J.length W i p ka kc [2,3]) (h8 b1 b2 b3 b7 i rc Y [2,3]) (g8 D F i p ka kc) (f8 p ka kc nd U nc J D F W) ?_ (λhSvb=>?_)
   ·
    rintro⟨O,bB,bC,Q,G,K,L⟩;refine Bj C ?_ ?_;exact Aa 2 (λq=>λ_=>Am [2,3] C<|AX hSavb (q,bB,bC,Q,G,K,L) lE (λw f d=>d.perm (List.perm_middle (l₁:=[_]))));refine Bj C ?_ ?_;exact Aa 2 (λq=>λ_=>Am [2,3] C<|AX hSvbc (O,bB,q,Q,G,K,L) lE (λw f d=>d));exact Ah C<|Aa 2 (λq=>λ_=>Am [2,3] C<|AX hSvbd (O,bB,bC,q,G,K,L) lE (λw f d=>d))
   refine CW eB (e8 U nd.len nc b1 b3 D F J.length W i p ka kc [2,5]) (h8 b1 b2 b3 b7 i rc Y [2,5]) (g8 D F i p ka kc) (f8 p ka kc nd U nc J D F W) ?_ (λhSvc=>?_)
   ·
    rintro⟨O,bB,bC,Q,G,K,L⟩;refine Bj C ?_ ?_;exact Aa 2 (λq=>λ_=>Am [2,3] C<|AX hSavc (q,bB,bC,Q,G,K,L) lE (λw f d=>d.perm (List.perm_middle (l₁:=[_]))));refine Bj C ?_ ?_;exact Aa 2 (λq=>λ_=>Am [2,3] C<|AX hSvbc (O,q,bC,Q,G,K,L) lE (λw f d=>d.perm (List.perm_middle (l₁:=[_]))));exact Ah C<|Aa 2 (λq=>λ_=>Am [2,3] C<|AX hSvcd (O,bB,bC,q,G,K,L) lE (λw f d=>d))
   refine CW fQ (e8 U nd.len nc b1 b3 D F J.length W i p ka kc [2,6]) (h8 b1 b2 b3 b7 i rc Y [2,6]) (g8 D F i p ka kc) (f8 p ka kc nd U nc J D F W) ?_ (λhSvd=>?_)
   ·
    rintro⟨O,bB,bC,Q,G,K,L⟩;refine Bj C ?_ ?_;exact Aa 2 (λq=>λ_=>Am [2,3] C<|AX hSavd (q,bB,bC,Q,G,K,L) lE (λw f d=>d.perm (List.perm_middle (l₁:=[_]))));refine Bj C ?_ ?_;exact Aa 2 (λq=>λ_=>Am [2,3] C<|AX hSvbd (O,q,bC,Q,G,K,L) lE (λw f d=>d.perm (List.perm_middle (l₁:=[_]))));exact Ah C<|Aa 2 (λq=>λ_=>Am [2,3] C<|AX hSvcd (O,bB,q,Q,G,K,L) lE (λw f d=>d.perm (List.perm_middle (l₁:=[_]))))
   refine CW t8_a (e8 U nd.len nc b1 b3 D F J.length W i p ka kc [1]) (h8 b1 b2 b3 b7 i rc Y [1]) (g8 D F i p ka kc) (f8 p ka kc nd U nc J D F W) ?_ (λhSa=>?_)
   ·
    rintro⟨O,bB,bC,Q,G,K,L⟩;refine Bj C ?_ ?_;exact B3 C C (eC Iz C C) (λw f d=>DQ w f d.vl (-1000))<|Aa 1 (λ_=>Am [1,2] C<|AX hSav (O,bB,bC,Q,G,K,L) lE (λw f d=>d));refine Bj C ?_ ?_;exact Aa 2 (λq=>λ_=>Am [2,3] C<|AX hSac (O,bB,q,Q,G,K,L) lE (λw f d=>d));exact Ah C<|Aa 2 (λq=>λ_=>Am [2,3] C<|AX hSad (O,bB,bC,q,G,K,L) lE (λw f d=>d))
   refine CW t8_c (e8 U nd.len nc b1 b3 D F J.length W i p ka kc [5]) (h8 b1 b2 b3 b7 i rc Y [5]) (g8 D F i p ka kc) (f8 p ka kc nd U nc J D F W) ?_ (λhSc=>?_)
   ·
    rintro⟨O,bB,bC,Q,G,K,L⟩;refine Bj C ?_ ?_;exact Aa 2 (λq=>λ_=>Am [2,3] C<|AX hSac (q,bB,bC,Q,G,K,L) lE (λw f d=>d.perm (List.perm_middle (l₁:=[_]))));refine Bj C ?_ ?_;exact B3 C C (eC Iz C C) (λw f d=>DQ w f d.vl (-1000))<|Aa 1 (λ_=>Am [1,2] C<|AX hSvc (O,bB,bC,Q,G,K,L) lE (λw f d=>d));exact Ah C<|Aa 2 (λq=>λ_=>Am [2,3] C<|AX hScd (O,bB,bC,q,G,K,L) lE (λw f d=>d))
   refine CW t8_d (e8 U nd.len nc b1 b3 D F J.length W i p ka kc [6]) (h8 b1 b2 b3 b7 i rc Y [6]) (g8 D F i p ka kc) (f8 p ka kc nd U nc J D F W) ?_ (λhSd=>?_)
   ·
    rintro⟨O,bB,bC,Q,G,K,L⟩;refine Bj C ?_ ?_;exact Aa 2 (λq=>λ_=>Am [2,3] C<|AX hSad (q,bB,bC,Q,G,K,L) lE (λw f d=>d.perm (List.perm_middle (l₁:=[_]))));refine Bj C ?_ ?_;exact B3 C C (eC Iz C C) (λw f d=>DQ w f d.vl (-1000))<|Aa 1 (λ_=>Am [1,2] C<|AX hSvd (O,bB,bC,Q,G,K,L) lE (λw f d=>d));exact Ah C<|Aa 2 (λq=>λ_=>Am [2,3] C<|AX hScd (O,bB,q,Q,G,K,L) lE (λw f d=>d.perm (List.perm_middle (l₁:=[_]))))
   refine CW t8_v (e8 U nd.len nc b1 b3 D F J.length W i p ka kc [2]) (h8 b1 b2 b3 b7 i rc Y [2]) (g8 D F i p ka kc) (f8 p ka kc nd U nc J D F W) ?_ (λhSv=>?_)
   ·
    rintro⟨O,bB,bC,Q,G,K,L⟩;refine Bj C ?_ ?_;exact Aa 2 (λq=>λ_=>Am [1,2] C<|AX hSav (q,bB,bC,Q,G,K,L) lE (λw f d=>d));refine Bj C ?_ ?_;exact Aa 2 (λq=>λ_=>Am [1,2] C<|AX hSvb (O,q,bC,Q,G,K,L) lE (λw f d=>d));refine Bj C ?_ ?_;exact Aa 2 (λq=>λ_=>Am [1,2] C<|AX hSvc (O,bB,q,Q,G,K,L) lE (λw f d=>d));exact Ah C<|Aa 2 (λq=>λ_=>Am [1,2] C<|AX hSvd (O,bB,bC,q,G,K,L) lE (λw f d=>d))
   refine CW t8_ (e8 U nd.len nc b1 b3 D F J.length W i p ka kc []) (h8 b1 b2 b3 b7 i rc Y []) (g8 D F i p ka kc) (f8 p ka kc nd U nc J D F W) ?_ (λhS=>?_)
   ·
    rintro⟨O,bB,bC,Q,G,K,L⟩;refine Bj C ?_ ?_;exact Aa 2 (λq=>λ_=>Am [1,2] C<|AX hSa (q,bB,bC,Q,G,K,L) lE (λw f d=>d));refine Bj C ?_ ?_;exact B3 C C (eC Iz C C) (λw f d=>DQ w f d.vl (-1000))<|Aa 1 (λ_=>Am [0,1] C<|AX hSv (O,bB,bC,Q,G,K,L) lE (λw f d=>d));refine Bj C ?_ ?_;exact Aa 2 (λq=>λ_=>Am [1,2] C<|AX hSc (O,bB,q,Q,G,K,L) lE (λw f d=>d));exact Ah C<|Aa 2 (λq=>λ_=>Am [1,2] C<|AX hSd (O,bB,bC,q,G,K,L) lE (λw f d=>d))
   exact AX hS (0,0,0,0,p.2.2,none,0) lE (λw f d=>d);rintro⟨Q,bC,G,K,L⟩ -;dsimp only;refine Aa 1 (λ_=>Ca [0,2] Aj (rd [0,1,2,3,5] (.br 4 (.br 6 (.br 7 (.rd 8 (.rd 9 (.br 10 .fin .fin))) .fin) .fin) (.br 6 (.br 4 (.br 7 (.rd 8 (.rd 9 (.br 10 .fin .fin))) .fin) .fin) .fin))) C kR<|Bh 5 [0] (y<|λ_=>Bj C ?_ ?_));refine Af 2 [1] (y<|λ_=>Am [0,2] C<|Ah C<|Aa 2 (λb8=>λ_=>?_))
   rotate_left
   refine Ah C<|Aa 2 (λb8=>λ_=>Am [1,3] C<|Ah C<|Af 2 [2] (y<|λ_=>?_))
   all_goals
    refine Am [1,3] C<|Ah C<|BW 0 0 C C HQ C C C C C C C C (λ_ _=>C) oM oM λqa qc=>Aa 1 (λ_=>Am [1,3] C<|AN 2 (λ_=>Ah C<|Af 2 [2] (y<|λ_=>Am [1,3] C<|Bp ?_)));exact Aa 7 (aI ⟨oM,oM⟩<|λ_=>C0 ((i+1,xs0++[S p.1,iV G.op,iV G.num,S G.tx,.slice K G.kids.len L,.slice (some ⟨bC,0,none⟩) 1 1],qa,qc)) (show J.length-(i+1)<J.length-i by omega) ⟨show i+1≤J.length by omega,one_app hC1 C⟩ lE (λw f d=>⟨_,d.less (sD (sD (sK (sK sZ)))) sR nE (mR [1,2])⟩))
  refine Aa 3 (λ_=>Dl<|Aa 3 (λ_=>?_));have hie:i=J.length:=by have:=dF h1;omega
  subst hie;refine IF (λw f d=>(d.row _ (.head _)).1) λhC=>?_;dsimp only at hC;refine mren hps.1<|vL 0 C C<|mmi (λb=>b=b3) (EE 72 b3 b2 (.slice Y (J.length+([]:Cn).length) rc) (.slice (some ⟨b7,0,none⟩) 8 8) (.slice none 0 0) (0,0,0)) (λb h=>.inr h) (λw f h=>h.2) EE.stab<|Aa 21 (λ_=>KR 9 1<|KR 75 4 ?_);refine D6 (α:=Nat×Nd×Cn×oA×Nat×Ty×lV×oA×Nat×List lU×oA×Nat×Int×Int×Int) (λx=>x.2.1.len) (λx=>x.1+x.2.1.len=nd.len∧x.2.2.2.2.2.1.len=x.1∧x.2.2.2.2.2.2.2.2.2.1.length=x.1∧x.2.2.1.length≤x.1∧x.2.1.size≤nd.size∧T6 100 x.2.2.1 x.2.1 q x.2.2.2.2.2.2.2.2.2.2.2.2 x.2.2.2.2.2.1) (λx=>(E6 0 (.slice U nd.len nc) 3 (pB b1) 5 (pB b3) 11 (.slice x.2.2.2.2.2.2.2.2.2.2.1 x.1 x.2.2.2.2.2.2.2.2.2.2.2.1) 12 (.slice x.2.2.2.2.2.2.2.1 x.1 x.2.2.2.2.2.2.2.2.1) 14 (iV (x.1:Int)))) (λx=>⟨λ_=>False,λb=>b=b3,EE 72 b3 b2 (.slice x.2.2.2.1 (J.length+x.2.2.1.length) x.2.2.2.2.1) (.slice (some ⟨b7,0,none⟩) 8 8) (.slice none 0 0) x.2.2.2.2.2.2.2.2.2.2.2.2,w,f⟩) (λx=>[⟨b1,[iV 0,iV 0],27,true⟩]) (λx=>[⟨75,4,x.2.2.2.2.2.2.2.1,x.2.2.2.2.2.2.2.2.1,x.1,x.2.2.2.2.2.2.1⟩,⟨9,1,x.2.2.2.2.2.2.2.2.2.2.1,x.2.2.2.2.2.2.2.2.2.2.2.1,x.1,x.2.2.2.2.2.2.2.2.2.1.flatMap sC⟩]) (λx=>[]) (λx=>[λw f=>Bc w f U x.1 x.2.1,λw f=>AU w f x.2.2.2.2.2.1 x.2.2.2.2.2.2.1,λw f=>Jf w f xs0 J.length x.2.2.1 x.2.2.2.1 x.2.2.2.2.1]) ((0,nd,[],Y,rc,.nil,[],none,0,[],none,0,0,0,0)) ⟨Nat.zero_add _,C,C,Nat.le_refl _,Nat.le_refl _,.inl ⟨C,hq,C,tQ,λ_ h=>by cases h⟩⟩ lE (λw f d=>d.more (B':=[]) (F':=[λw f=>Bc w f U 0 nd,λw f=>AU w f .nil []]) nE (AA.mem ⟨AJ.at d.f1,C,tQ⟩) (Ap.mem ⟨Bc.mono,AU.mono,tQ⟩) |>.less sR sR nE (mR [0,1,2])) ?_;rintro⟨i,r,e,ea,ec,dn,xs,ta,tc,ns,sa,sc,s⟩ ⟨hi,hdl,hnl,hel,hsz,hst⟩;dsimp only at hi hdl hnl hel hsz hst ⊢;refine Aa 8 (λ_=>A6 89 C C (λh2=>?_) (λh2=>?_));refine Aa 3 (λ_=>Cz C C (λw f d=>Ai C Gc d.res C)<|Aa 4 (λ_=>A6 95 C C (λh3=>?_) (λh3=>?_)));refine Aa 6 (λ_=>?_);have hil:i<nd.len:=by have:=dT h2;omega
  obtain⟨op2,ln2,co2,tx2,nm2,k2,r,rfl⟩:=Nd.cases1 r oM;have hi2:i+(r.len+1)=nd.len:=hi;obtain⟨rfl,hpu,hsh,hbd,hEo⟩:=T6.ok hst (eq_of_beq h3);obtain⟨o1,l1,c1,x1,n1,k1,r1,rfl,hop,hex,hcc⟩:=cG hpu;refine H4 0 C ?_;rintro⟨D,F,ka,kc⟩ rfl;refine Af 23 [100,0,0,0,1] (aI (by first|omega|(simp only[Nd.len];omega))<|y2<|λb8=>y<|λb9=>y<|y<|λ_=>?_);refine RP (α:=Int×lU×Cn×oA×Nat×T1×oA×Nat) (λx=>T6 100 x.2.2.1 r q (KY r1) (dn.snoc x.2.2.2.2.2.1)∧x.2.2.1.length≤i+1) (λx=>(E8 0 (.slice (some ⟨D,F,none⟩) nd.len nc) 3 (pB b1) 5 (pB b3) 11 (.slice sa i sc) 12 (.slice ta i tc) 14 (iV (i:Int)) 15 (pB b8) 16 (pB b9))) (λx=>⟨λ_=>False,λb=>b=b3,EE 72 b3 b2 (.slice x.2.2.2.1 (J.length+x.2.2.1.length) x.2.2.2.2.1) (.slice (some ⟨b7,0,none⟩) 8 8) (.slice none 0 0) (KY r1),w,f⟩) (λx=>[⟨b9,tC x.2.2.2.2.2.1 x.2.2.2.2.2.2.1 x.2.2.2.2.2.2.2,75,true⟩,⟨b8,[iV x.1,iV ln2,iV co2,S x.2.1,iV nm2,.slice ka 1 kc],58,true⟩,⟨b1,[iV 0,iV 0],27,true⟩]) (λx=>[⟨75,4,ta,tc,i,xs⟩,⟨9,1,sa,sc,i,ns.flatMap sC⟩]) (λx=>[]) (λx=>[λw f=>Ae w f x.2.2.2.2.2.1.kids x.2.2.2.2.2.2.1 x.2.2.2.2.2.2.2,λw f=>Jf w f xs0 J.length x.2.2.1 x.2.2.2.1 x.2.2.2.2.1,λw f=>Bc w f (some ⟨D,F,none⟩) (i+1) r,λw f=>AU w f dn xs]) ?_ ?_
  ·
   rcases hop with rfl|rfl
   refine Aa 23 (λ_=>mna 0 C<|H4 0 C ?_);rintro⟨eb1,eo1,ka1,kc1⟩ rfl;refine IQ (λw=>∃s:Int×Int×Int,AE w b3 [pB b2,(.slice ea (J.length+e.length) ec),(.slice (some ⟨b7,0,none⟩) 8 8),(.slice none 0 0),iV s.1,iV s.2.1,iV s.2.2] 72) (λw f h _=>⟨_,h⟩) [1,2] Aj (rd [0,1,2,3,4,5,6,7,8] (.br 9 (.br 10 .fin .fin) .fin)) C kR kR kR (λ_ _ _ _ _ h=>h)<|Bh 8 [0,100,0] (y<|aI (by first|omega|(simp only[Nd.len];omega))<|y2<|λ_=>CP C C C (λw hK=>let ⟨_,h⟩:=hK.2.2;Ai C PB h C)<|Ah C<|JK (XX:=λ_ _=>False) C C (eC J0 C C) (λw f d=>(LP 100 w f d.vl b3 b2 (.slice ea (J.length+e.length) ec) (.slice (some ⟨b7,0,none⟩) 8 8) (.slice none 0 0) d.res (d.mi b3 C).2.1 xs0 J.length e ea ec hC hC1 oM hEo d.f7 o1 l1 c1 n1 x1 k1 ka1 kc1 r1 (by have h9:(Nd.cons o1 l1 c1 x1 n1 k1 .nil).size+r.size+1≤_:=hsz;simp only[Nd.size] at h9;omega) hex d.f0).retP) (λ_=>EE.stab) (λ_=>⟨Ae.mono,tQ⟩) (λ_ _ _ _ _ h=>h.elim) ?_);rintro⟨t,xa,xc⟩ hq2;dsimp only at hq2 ⊢;replace hq2:∀u,r1=.ok u→t=u:=hq2;refine Aa 1 (λ_=>AS [1,2] (λw f h _=>⟨_,h⟩) C (λ_ h=>h)<|Ah C<|Af 2 [0] (y<|λ_=>AS [1,2] (λw f h _=>⟨_,h⟩) C (λ_ h=>h)<|Bp<|Aa 1 (λ_=>Ca [0,1,2] Aj (rd [0,1,2,3,4,6,7,8,9,10,11,12] (.br 5 (.br 13 (.br 14 (.rd 15 (.rd 16 (.br 17 .fin .fin))) .fin) .fin) (.br 13 (.br 5 (.br 14 (.rd 15 (.rd 16 (.br 17 .fin .fin))) .fin) .fin) .fin))) C kR<|Bh 12 [1,0,1,100,0] (y<|y<|y<|aI (by first|omega|(simp only[Nd.len];omega))<|y2<|λ_=>Bj C ?_ ?_))));refine Cz C C (λw f d=>Ai C PB d.res C)<|Aa 1 (λ_=>Am [0,1,2] C<|Ah C<|BV C C (eC Mj C C) (λw f d=>FK _ w f d.vl o1 l1 c1 n1 x1 k1 ka1 kc1 (Nat.lt_succ_self _) (by have h9:(Nd.cons o1 l1 c1 x1 n1 k1 .nil).size+r.size+1≤_:=hsz;simp only[Nd.size] at h9;omega) d.f1) (λx=>trivial) ?_);rintro bv -
   rotate_left
   refine Ah C<|BV C C (eC Mj C C) (λw f d=>FK _ w f d.vl o1 l1 c1 n1 x1 k1 ka1 kc1 (Nat.lt_succ_self _) (by have h9:(Nd.cons o1 l1 c1 x1 n1 k1 .nil).size+r.size+1≤_:=hsz;simp only[Nd.size] at h9;omega) d.f1) (λx=>trivial) ?_;rintro bv -;refine Aa 1 (λ_=>Am [0,1,2] C<|Ah C<|Cz C C (λw f d=>Ai C PB d.res C) ?_)
   rotate_left
   refine Aa 37 (λ_=>mna 0 C<|H4 0 C ?_);rintro⟨eb1,eo1,ka1,kc1⟩ rfl;refine IQ (λw=>∃s:Int×Int×Int,AE w b3 [pB b2,(.slice ea (J.length+e.length) ec),(.slice (some ⟨b7,0,none⟩) 8 8),(.slice none 0 0),iV s.1,iV s.2.1,iV s.2.2] 72) (λw f h _=>⟨_,h⟩) [1,2] Aj (rd [0,1,2,3,4,5,6,7,8] (.br 9 (.br 10 .fin .fin) .fin)) C kR kR kR (λ_ _ _ _ _ h=>h)<|Bh 8 [0,100,0] (y<|aI (by first|omega|(simp only[Nd.len];omega))<|y2<|λ_=>CP C C C (λw hK=>let ⟨_,h⟩:=hK.2.2;Ai C PB h C)<|Ah C<|JK (XX:=λ_ _=>False) C C (eC J0 C C) (λw f d=>(LP 100 w f d.vl b3 b2 (.slice ea (J.length+e.length) ec) (.slice (some ⟨b7,0,none⟩) 8 8) (.slice none 0 0) d.res (d.mi b3 C).2.1 xs0 J.length e ea ec hC hC1 oM hEo d.f7 o1 l1 c1 n1 x1 k1 ka1 kc1 r1 (by have h9:(Nd.cons o1 l1 c1 x1 n1 k1 .nil).size+r.size+1≤_:=hsz;simp only[Nd.size] at h9;omega) hex d.f0).retP) (λ_=>EE.stab) (λ_=>⟨Ae.mono,tQ⟩) (λ_ _ _ _ _ h=>h.elim) ?_);rintro⟨t,xa,xc⟩ hq2;dsimp only at hq2 ⊢;replace hq2:∀u,r1=.ok u→t=u:=hq2;exact Aa 1 (λ_=>AS [1,2] (λw f h _=>⟨_,h⟩) C (λ_ h=>h)<|Ah C<|Af 2 [0] (y<|λ_=>AS [1,2] (λw f h _=>⟨_,h⟩) C (λ_ h=>h)<|Bp<|Af 6 [1] (y<|λ_=>Ph (46,[],e,ea,ec,t,xa,xc) ⟨T6.next (op:=46) hEo hsh hbd hex hcc hq2,Nat.le_succ_of_le hel⟩ lE (λw f d=>⟨f,d.less (sK (sK (sK sZ))) sR nE (mR [0,8,5,7])⟩))))
   all_goals
    refine Aa 1 (λ_=>Am [0,1,2] C<|Ah C<|BV C C (eC Uw C C) (λw f d=>Kx w f d.vl b3 b2 (.slice ea (J.length+e.length) ec) (.slice (some ⟨b7,0,none⟩) 8 8) (.slice none 0 0) (KY r1) d.res xs0 J.length e ea ec hC hC1 oM d.f8 tx2 t xa xc bv (ex_hs hEo hex hq2) d.f0) (λx=>⟨Jf.mono,tQ⟩) ?_);rintro⟨ra2,rc2⟩ -;exact Aa 1 (λ_=>Am [0,1,2] C<|AN 2 (λ_=>Ah C<|lZ (b:=b3) (I':=EE 72 b3 b2 (.slice ra2 (J.length+((tx2,t)::e).length) rc2) (.slice (some ⟨b7,0,none⟩) 8 8) (.slice none 0 0) (KY r1)) C C C C PB C C C C (λw f h=>h) (λw f w2 h d hC hb=>hb) EE.stab<|Aa 1 (λ_=>Am [0,1,2] C<|Bp<|Aa 1 (λ_=>Ph (44,tx2,(tx2,t)::e,ra2,rc2,t,xa,xc) ⟨T6.next (op:=44) hEo hsh hbd hex hcc hq2,Nat.succ_le_succ hel⟩ lE (λw f d=>⟨f,d.less (sK (sK (sK sZ))) sR nE (mR [1,0,6,8])⟩)))))
  rintro⟨op3,nm3,e3,ea3,ec3,t,xa,xc⟩ ⟨hst3,hel3⟩;dsimp only at hst3 hel3 ⊢;refine Aa 1 (λ_=>Ca [0,1,2] Aj (rd [0,1,2,5,6] (.br 3 (.br 4 (.br 7 (.br 8 (.rd 9 (.rd 10 .fin)) .fin) .fin) (.br 7 (.br 4 (.br 8 (.rd 9 (.rd 10 .fin)) .fin) .fin) .fin)) (.br 7 (.br 3 (.br 4 (.br 8 (.rd 9 (.rd 10 .fin)) .fin) .fin) .fin) .fin))) C kR<|Bh 5 [1,0] (y<|y<|λ_=>Bj C ?_ ?_));refine Aa 2 (λb10=>λ_=>Am [1,2,3] C ?_)
  focus
   refine Bj C ?_ ?_;refine BW 1 0 C C WT C C C C C C C C (λ_ _=>C) oM oM λsa2 sc2=>Aa 1 (λ_=>Am [1,2,3] C<|Ah C<|Aa 2 (λb11=>λ_=>?_))
   rotate_left
   refine Ah C<|Aa 2 (λb11=>λ_=>Am [2,3,4] C<|Ah C<|BW 1 1 C C WT C C C C C C C C (λ_ _=>C) oM oM λsa2 sc2=>Aa 1 (λ_=>?_))
   all_goals
    refine Am [2,3,4] C<|Ah C<|BW 0 0 C C P2 C C C C C C C C (λ_ _=>C) oM oM λta2 tc2=>?_
  rotate_left 2
  refine Ah C<|Aa 2 (λb10=>λ_=>Am [1,2,3] C<|Ah C<|Aa 2 (λb11=>λ_=>Am [2,3,4] C<|Ah C<|BW 1 0 C C WT C C C C C C C C (λ_ _=>C) oM oM λsa2 sc2=>Aa 1 (λ_=>Am [2,3,4] C ?_)));refine Ah C<|BW 0 1 C C P2 C C C C C C C C (λ_ _=>C) oM oM λta2 tc2=>?_
  rotate_left
  refine Aa 3 (λ_=>Dl<|Aa 8 (λ_=>Cz C C (λw f d=>Ai C Gc d.res C)<|Aa 3 (λ_=>A6 270 C C (λh4=>?_) (λh4=>?_))));refine Aa 2 (λ_=>IQ (λw=>AE w b3 [pB b2,(.slice ea (J.length+e.length) ec),(.slice (some ⟨b7,0,none⟩) 8 8),(.slice none 0 0),iV s.1,iV s.2.1,iV s.2.2] 72) (λw f h _=>h) [] Aj (rd [0,1,2,3,4,5,6,7,8] (.br 9 (.rd 10 .fin) .fin)) C kR kR kR (λ_ _ _ _ _ h=>h)<|AN 3 (λ_=>CP C C C (λw hK=>C3 C FH hK.2.2 C)<|AN 3 (λ_=>CP C C C (λw hK=>Ai C Gc hK.2.2 C)<|AN 1 (λ_=>Ah C<|Af 2 [0] (y<|λ_=>AS [] (λw f h _=>h) C (λ_ h=>h) ?_)))));exact AN 1 (λ_=>Bp<|Aa 3 (λ_=>AK (λw f d=>Ez C (Ak C) (Ac C FH d.k0 C) (Ak C)) (λw f d=>⟨(none,0,0),f,(by rw[T6.err hst (ne_of_beq_false h3)]),tQ,d.exm,tQ⟩)));exact absurd (bne_eq_false_iff_eq.1 h4) (ne_of_beq_false h3);refine Aa 11 (λ_=>Dl<|Aa 8 (λ_=>Cz C C (λw f d=>Ai C Gc d.res C)<|Aa 3 (λ_=>?_)))
  ·
   refine A6 270 C C (λh3=>?_) (λh3=>?_);refine Aa 2 (λ_=>IQ (λw=>AE w b3 [pB b2,(.slice ea (J.length+e.length) ec),(.slice (some ⟨b7,0,none⟩) 8 8),(.slice none 0 0),iV s.1,iV s.2.1,iV s.2.2] 72) (λw f h _=>h) [] Aj (rd [0,1,2,3,4,5,6,7,8] (.br 9 (.rd 10 .fin) .fin)) C kR kR kR (λ_ _ _ _ _ h=>h)<|AN 3 (λ_=>CP C C C (λw hK=>C3 C FH hK.2.2 C)<|AN 3 (λ_=>CP C C C (λw hK=>Ai C Gc hK.2.2 C)<|AN 1 (λ_=>Ah C<|Af 2 [0] (y<|λ_=>AS [] (λw f h _=>h) C (λ_ h=>h) ?_)))));exact AN 1 (λ_=>Bp<|Aa 3 (λ_=>AK (λw f d=>Ez C (Ak C) (Ac C FH d.k0 C) (Ak C)) (λw f d=>⟨(none,0,0),f,(by rw[T6.err hst (bne_iff_ne.1 h3)]),tQ,d.exm,tQ⟩)));refine Aa 4 (λ_=>?_);obtain rfl:r=.nil:=Nd.len0 (by have:=dF h2;omega);obtain⟨rfl,_,hsh,hbd,_⟩:=T6.ok hst (bne_eq_false_iff_eq.1 h3);have hq9:=T6.fin hst;subst hnl;refine mrty 1 C<|mrls<|Aa 11 (λ_=>KR 102 2 ?_);refine D6 (α:=Nat×Ty×lV×oA×Nat) (λx=>x.2.1.len) (λx=>x.1+x.2.1.len=ns.length∧iX x.2.1=true∧x.2.1.bnd) (λx=>(E6 3 (pB b1) 5 (pB b3) 11 (.slice sa ns.length sc) 12 (.slice ta ns.length tc) 20 (.slice x.2.2.2.1 x.1 x.2.2.2.2) 21 (iV (x.1:Int)))) (λx=>⟨λ_=>False,λb=>b=b3,EE 72 b3 b2 (.slice ea (J.length+e.length) ec) (.slice (some ⟨b7,0,none⟩) 8 8) (.slice none 0 0) (0,0,0),w,f⟩) (λx=>[⟨b1,[iV 0,iV 0],27,true⟩]) (λx=>[⟨102,2,x.2.2.2.1,x.2.2.2.2,x.1,x.2.2.1⟩]) (λx=>[]) (λx=>[λw f=>Bn w f ta x.1 x.2.1,λw f=>IJ sC w f ns sa sc]) ((0,dn,[],none,0)) ⟨(Nat.zero_add _).trans hdl,hsh,hbd⟩ lE (λw f d=>d.more (B':=[]) (F':=[λw f=>Bn w f ta 0 dn]) nE (AA.mem ⟨Ae.at d.f1,tQ⟩) (Ap.mem ⟨Bn.mono,tQ⟩) |>.less sR sR nE (mR [0,1])) ?_;rintro⟨j,r2,ys,oa,oc⟩ ⟨hj,hsh2,hbd2⟩;dsimp only at hj hsh2 hbd2 ⊢;refine Aa 9 (λ_=>A6 282 C C (λh4=>?_) (λh4=>?_));refine Aa 6 (λ_=>?_);have hjl:j<ns.length:=by have:=dT h4;omega
   obtain⟨t2,r2,rfl⟩:=Ty.cases1 r2 oM;rw[T1.len_cons] at hj;obtain⟨⟨s9,rfl⟩,hsh3⟩:=dG hsh2;obtain⟨hb9,hb3⟩:=T1.bnd_cons.1 hbd2;refine Te 0 C ?_;rintro⟨D,F,ka,kc⟩ hta;obtain⟨n9,hn9⟩:∃v,ns[j]?=some v:=⟨_,List.getElem?_eq_getElem hjl⟩;refine Ja (α:=Nat×Nat) (λx=>sa=some ⟨x.1,x.2,none⟩) (λx=>[⟨x.1,x.2+j*1,[S n9]⟩]) (λx=>[]) (λw f d=>let ⟨b,off,h1,h2⟩:=IJ.get 1 (λ_=>C) d.f3 hn9;⟨(b,off),h1,(oE h2),λ_ h=>by cases h⟩) (λx=>Ap.mem tQ) ?_;rintro⟨nb,no⟩ hsa;subst hta;subst hsa;refine IQ (λw=>∃s:Int×Int×Int,AE w b3 [pB b2,(.slice ea (J.length+e.length) ec),(.slice (some ⟨b7,0,none⟩) 8 8),(.slice none 0 0),iV s.1,iV s.2.1,iV s.2.2] 72) (λw f h _=>⟨_,h⟩) [0] Aj (rd [0,1,2,3,4,5,6,7] (.br 8 (rd [9,10,11] (.br 12 (.br 13 (.rd 14 .fin) .fin) .fin)) (.br 12 (.br 8 (rd [9,10,11] (.br 13 (.rd 14 .fin) .fin)) .fin) .fin))) C kR kR kR (λ_ _ _ _ _ h=>h)<|AN 3 (λ_=>CP C C C (λw hK=>let ⟨_,h⟩:=hK.2.2;Ai C Xx h C)<|Bh 4 [101,0] (aI (by first|omega|(simp only[Nd.len];omega))<|y2<|λ_=>Bj C ?_ ?_));refine BV C C (eC IZ C C) (λw f d=>HN w f d.vl b2 (.con s9 .nil) ka kc C hb9 (show (1:Nat)≤1000 by decide) d.f0) (λx=>⟨Ae.mono,tQ⟩) ?_;rintro⟨fa,fc⟩ -;refine Aa 1 (λ_=>AS [0] (λw f h _=>⟨_,h⟩) C (λ_ h=>h)<|AN 3 (λ_=>Ah C<|Aa 2 (λb8=>λ_=>AS [1] (λw f h _=>⟨_,h⟩) C (λ_ h=>h) ?_)))
   rotate_left
   refine Ah C<|Aa 2 (λb8=>λ_=>AS [1] (λw f h _=>⟨_,h⟩) C (λ_ h=>h)<|Ah C<|BV C C (eC IZ C C) (λw f d=>HN w f d.vl b2 (.con s9 .nil) ka kc C hb9 (show (1:Nat)≤1000 by decide) d.f0) (λx=>⟨Ae.mono,tQ⟩) ?_);rintro⟨fa,fc⟩ -;refine Aa 1 (λ_=>AS [1] (λw f h _=>⟨_,h⟩) C (λ_ h=>h)<|AN 3 (λ_=>?_))
   rotate_left
   exact Aa 3 (λ_=>Dl<|Af 12 [0] (y<|λ_=>AK (λw f d=>Ez C (Ak C) (Ac C FH d.k0 C) (Ak C)) (λw f d=>⟨(oa,j,oc),f,(by rw[hq9]),tQ,d.exm,tQ⟩)))
   all_goals
    refine Ah C<|Af 2 [0] (y<|λ_=>AS [1] (λw f h _=>⟨_,h⟩) C (λ_ h=>h)<|AN 1 (λ_=>Bp<|Aa 11 (λ_=>Ca [0,1] Aj (rd [0,1,2,3,4,5] (.br 6 (.rd 7 (.br 8 (.br 9 (.rd 10 .fin) .fin) .fin)) .fin)) C kR<|Bh 6 [100,0,0] (aI (by first|omega|(simp only[Nd.len];omega))<|y2<|y<|λ_=>Ah C<|B3 C C (eC uP C C) (λw f d=>Up w f d.vl s9 fa fc hb9) ?_))));refine Aa 1 (λ_=>Am [0,1] C<|AN 1 (λ_=>Ah C<|Aa 2 (λb9=>λ_=>Am [1,2] C<|Ah C<|BW 0 0 C C qap34 C C C C C C C C (λ_ _=>C) oM oM λoa2 oc2=>Aa 1 (λ_=>Am [1,2] C ?_))));exact AN 1 (λ_=>Bp<|Aa 7 (aI ⟨oM,oM⟩<|λ_=>C0 ((j+1,r2,ys++[S n9,S s9],oa2,oc2)) (show r2.len<r2.len+1 from Nat.lt_succ_self _) ⟨show j+1+r2.len=ns.length by omega,hsh3,hb3⟩ lE (λw f d=>⟨_,d.less (sD (sD (sK sZ))) sR nE (mR [2,4])⟩)))
  all_goals
   exact Aa 1 (λ_=>Am [2,3,4] C<|AN 2 (λ_=>Bp<|Aa 7 (aI ⟨oM,oM⟩<|λ_=>C0 ((i+1,r,e3,ea3,ec3,dn.snoc t,xs++tC t xa xc,ta2,tc2,ns++[nm3],sa2,sc2,KY r1)) (show r.len<r.len+1 from Nat.lt_succ_self _) ⟨show i+1+r.len=nd.len by omega,show (dn.snoc t).len=i+1 by rw[Ty.len_snoc,hdl],show (ns++[nm3]).length=i+1 by rw[List.length_append,hnl];rfl,hel3,show r.size≤nd.size by have h9:(Nd.cons o1 l1 c1 x1 n1 k1 .nil).size+r.size+1≤_:=hsz;omega,hst3⟩ lE (λw f d=>⟨_,(by dsimp only;rw[HV];exact (d.more (B':=[]) (F':=[λw f=>AU w f (dn.snoc t) (xs++tC t xa xc)]) nE (AA.mem ⟨AU.snoc d.f0 d.f3,tQ⟩) (Ap.mem ⟨AU.mono,tQ⟩)).less (sD (sD (sD (sD (sK sZ))))) sR nE (mR [3,0,2]))⟩))))

theorem Yq(w:wO)(f:Fq)(Y:Vl w f)(w0:lU)(d:UInt8)(D:w0[0]?=some d)(h:Eu d=true) :
  AO prog 103 #[S w0] w (AF (α:=Unit) (λ_=>.tuple #[iV 0,iV 2]) (λ_=>True) (λ_=>[]) w f):=by
 have Z:=JD h;have hwl:=(List.getElem?_eq_some_iff.1 D).1;refine Dq [] func103 C C C (AR Y tQ tQ)<|Aa 23 (λ_=>A6 11 C C (λK=>?_) (λK=>?_));refine Aa 2 (aI oM<|λc1 F=>λ_=>?_);obtain rfl:d=c1:=Option.some.inj (D.symm.trans F);refine Aa 4 (λ_=>A6 15 C C (λL=>?_) (λL=>?_));exact absurd (eq_of_beq L) (by first|omega|decide);refine Aa 12 (λ_=>A6 19 C C (λO=>?_) (λO=>?_));exact absurd (eq_of_beq O) (by first|omega|decide);refine Aa 11 (λ_=>zD<|Aa 9 (λ_=>A6 23 C C (λQ=>?_) (λQ=>?_)));refine Aa 11 (aI oM<|λc2 G=>λ_=>?_);obtain rfl:d=c2:=Option.some.inj (D.symm.trans G);refine Aa 2 (λ_=>A6 30 C C (λU=>?_) (λU=>?_));exact absurd (dT U) (by first|omega|decide);refine Aa 3 (aI oM<|λc3 J=>λ_=>?_);obtain rfl:d=c3:=Option.some.inj (D.symm.trans J);refine Aa 4 (λ_=>A6 35 C C (λW=>?_) (λW=>?_));exact Aa 11 (λ_=>So<|Aa 2 (λ_=>VS (λw f hM=>B5 C (Ak C) (Ak C)) C));exact absurd (by first|omega|decide) (dF W);exact absurd (by first|omega|decide) (dF Q);exact absurd (by first|omega|decide) (dF K)
theorem YG(w:wO)(f:Fq)(Y:Vl w f)  :
  AO prog 103 #[S [49]] w (AF (α:=Unit) (λ_=>.tuple #[iV 1,iV 0]) (λ_=>True) (λ_=>[]) w f):=by
 have K:([49]:lU).length=1:=rfl;refine Dq [] func103 C C C (AR Y tQ tQ)<|Aa 23 (λ_=>A6 11 C C (λL=>?_) (λL=>?_));refine Aa 2 (aI oM<|λZ D=>λ_=>?_);obtain rfl:49=Z:=Option.some.inj D;refine Aa 4 (λ_=>A6 15 C C (λO=>?_) (λO=>?_));exact absurd (eq_of_beq O) (by first|omega|decide);refine Aa 12 (λ_=>A6 19 C C (λQ=>?_) (λQ=>?_));exact absurd (eq_of_beq Q) (by first|omega|decide);refine Aa 11 (λ_=>?_);refine D6 (α:=Nat) (λx=>1-x) (λx=>x≤1) (λx=>(E5 0 (S [49]) 4 (.bool false) 5 (iV (x:Int)) 6 (.int .u64 (x:Int)) 7 (.bool false))) (λx=>X0 w f) (λx=>[]) (λx=>[]) (λx=>[]) (λx=>[]) (0) (Nat.zero_le _) lE (λw f d=>d) ?_;rintro i hi;rcases Nat.eq_or_lt_of_le hi with rfl|hi0
 refine Aa 9 (λ_=>A6 23 C C (λh=>?_) (λh=>?_));exact absurd (dT h) (by first|omega|decide);exact Aa 3 (λ_=>Dl<|Aa 31 (λ_=>Cz C C (λw f d=>Cg (m:=1) C WH dC)<|Aa 5 (λ_=>VS (λw f d=>B5 C (Ak C) (Ak C)) C)));obtain rfl:i=0:=oM;refine Aa 9 (λ_=>A6 23 C C (λh=>?_) (λh=>?_));refine Aa 11 (aI oM<|λc2 F=>λ_=>?_);obtain rfl:49=c2:=Option.some.inj F;refine Aa 2 (λ_=>A6 30 C C (λU=>?_) (λU=>?_));exact absurd (dT U) (by first|omega|decide);refine Aa 3 (aI oM<|λc3 G=>λ_=>?_);obtain rfl:49=c3:=Option.some.inj G;refine Aa 4 (λ_=>A6 35 C C (λW=>?_) (λW=>?_));exact absurd (dT W) (by first|omega|decide);refine Aa 19 (λ_=>Cz C C (λw f d=>Nb 0 C C dC)<|Aa 3 (aI oM<|λc4 J=>λ_=>?_));obtain rfl:49=c4:=Option.some.inj J;exact Cz C C (λw f d=>DO 1 C C dC)<|Cz C C (λw f d=>Cg (m:=1) C nI dC)<|Cz C C (λw f d=>Lx 1 C C dC)<|Aa 15 (aI ⟨oM,oM⟩<|λ_=>C0 (1) dC (Nat.le_refl _) lE (λw f d=>⟨_,d⟩));exact absurd (by first|omega|decide) (dF h);exact absurd (by first|omega|decide) (dF L)
theorem VB(w:wO)(f:Fq)(Z:Vl w f)(w0:lU)(d:UInt8)(h:w0[0]?=some d)(D:Eu d=true) :
  AO prog 104 #[S w0] w (AF (α:=Unit) (λ_=>.tuple #[.int .u64 0,iV 2]) (λ_=>True) (λ_=>[]) w f):=by
 have hrg:=JD D;have hwl:=(List.getElem?_eq_some_iff.1 h).1;refine Dq [] func104 C C C (AR Z tQ tQ)<|Aa 23 (λ_=>A6 16 C C (λL=>?_) (λL=>?_));refine Aa 2 (aI oM<|λc1 F=>λ_=>?_);obtain rfl:d=c1:=Option.some.inj (h.symm.trans F);refine Aa 4 (λ_=>A6 20 C C (λO=>?_) (λO=>?_));exact absurd (eq_of_beq O) (by first|omega|decide);refine Aa 19 (λ_=>zD<|Aa 9 (λ_=>A6 24 C C (λQ=>?_) (λQ=>?_)));refine Aa 11 (aI oM<|λc2 G=>λ_=>?_);obtain rfl:d=c2:=Option.some.inj (h.symm.trans G);refine Aa 2 (λ_=>A6 31 C C (λU=>?_) (λU=>?_));exact absurd (eq_of_beq U) (by first|omega|decide);refine Aa 14 (aI oM<|λc3 J=>λ_=>?_);obtain rfl:d=c3:=Option.some.inj (h.symm.trans J);refine Aa 2 (λ_=>A6 39 C C (λW=>?_) (λW=>?_));exact absurd (dT W) (by first|omega|decide);refine Aa 3 (aI oM<|λc4 K=>λ_=>?_);obtain rfl:d=c4:=Option.some.inj (h.symm.trans K);refine Aa 4 (λ_=>A6 44 C C (λY=>?_) (λY=>?_));exact Aa 11 (λ_=>So<|Aa 2 (λ_=>VS (λw f hM=>B5 C (Ak C) (Ak C)) C));exact absurd (by first|omega|decide) (dF Y);exact absurd (by first|omega|decide) (dF Q);exact absurd (by first|omega|decide) (dF L)
theorem MD(w:wO)(f:Fq)(D:Vl w f)(c:UInt8)(F:(Eu c||I3 c)=true) :
  AO prog 106 #[.int .u8 c.toNat] w (AF (α:=Unit) (λ_=>.bool false) (λ_=>True) (λ_=>[]) w f):=by
 have G:=sB F;refine Dq [] func106 C C C (AR D tQ tQ)<|Aa 10 (λ_=>A6 5 C C (λh=>?_) (λh=>?_));exact Aa 7 (λ_=>AK (Cy C C) (λw f d=>⟨(),f,(congrArg Value.bool (decide_eq_false (by have:=dT h;omega))),tQ,d.exm,tQ⟩));exact Aa 7 (λ_=>AK (Cy C C) (λw f d=>⟨(),f,(rfl),tQ,d.exm,tQ⟩))
theorem Jk(w:wO)(f:Fq)(D:Vl w f)(c:UInt8)  :
  AO prog 108 #[.int .u8 c.toNat] w (AF (α:=Unit) (λ_=>.bool (I3 c)) (λ_=>True) (λ_=>[]) w f):=by
 refine Dq [] func108 C C C (AR D tQ tQ)<|Aa 10 (λ_=>A6 5 C C (λd=>?_) (λd=>?_));exact Aa 7 (λ_=>AK (Cy C C) (λw f h=>⟨(),f,(congrArg Value.bool (by unfold I3;rw[Bool.eq_iff_iff];have:=dT d;simp only[Bool.and_eq_true,decide_eq_true_eq];omega)),tQ,h.exm,tQ⟩));exact Aa 7 (λ_=>AK (Cy C C) (λw f h=>⟨(),f,(congrArg Value.bool (by unfold I3;rw[Bool.eq_iff_iff];have:=dF d;simp only[Bool.and_eq_true,decide_eq_true_eq,Bool.false_eq_true,false_iff];omega)),tQ,h.exm,tQ⟩))
theorem O3(w:wO)(f:Fq)(J:Vl w f)(c:UInt8)(K:Eu c=true) :
  AO prog 107 #[.int .u8 c.toNat] w (AF (α:=Unit) (λ_=>.bool true) (λ_=>True) (λ_=>[]) w f):=by
 have L:=JD K;refine Dq [] func107 C C C (AR J tQ tQ)<|Aa 17 (λ_=>?_);refine D6 (α:=Nat) (λx=>12-x) (λx=>x≤12) (λx=>(E3 0 (.int .u8 c.toNat) 3 (S [39,43,42,47,60,62,61,33,63,95,46,45]) 4 (iV (x:Int)))) (λx=>X0 w f) (λx=>[]) (λx=>[]) (λx=>[]) (λx=>[]) (0) (Nat.zero_le _) lE (λw f d=>d) ?_;rintro i Q;have D:([39,43,42,47,60,62,61,33,63,95,46,45]:lU).length=12:=rfl;refine Aa 9 (λ_=>A6 8 C C (λF=>?_) (λF=>?_));refine Aa 6 (λ_=>?_);have G:i<12:=by have:=dT F;omega
 refine Aa 4 (aI oM<|λU O=>λ_=>?_)
 skip
 refine Aa 4 (λ_=>A6 15 C C (λh=>?_) (λh=>?_));exact Aa 9 (λ_=>So<|Aa 2 (λ_=>AK (Cy C C) (λw f d=>⟨(),f,(rfl),tQ,d.exm,tQ⟩)));exact Aa 9 (aI ⟨oM,oM⟩<|λ_=>C0 (i+1) (show 12-(i+1)<12-i by omega) (show i+1≤12 by omega) lE (λw f d=>⟨_,d⟩));refine Aa 3 (λ_=>Dl<|Aa 7 (λ_=>A6 18 C C (λh=>?_) (λh=>?_)));exact Aa 7 (λ_=>AK (Cy C C) (λw f d=>⟨(),f,(congrArg Value.bool (decide_eq_true oM)),tQ,d.exm,tQ⟩));exact absurd (by first|omega|decide) (dF h)
theorem M1(w:wO)(f:Fq)(F:Vl w f)(c:UInt8)(G:rB c=true) :
  AO prog 48 #[.int .u8 c.toNat] w (AF (α:=Unit) (λ_=>.bool ((c.toNat:Int)==32)) (λ_=>True) (λ_=>[]) w f):=by
 obtain⟨O,J,K,L⟩:=RG G;refine Dq [] func48 C C C (AR F tQ tQ)<|Aa 10 (λ_=>A6 5 C C (λd=>?_) (λd=>?_));exact Aa 11 (λ_=>AK (Cy C C) (λw f h=>⟨(),f,(by rw[d]),tQ,h.exm,tQ⟩));refine Aa 4 (λ_=>A6 9 C C (λD=>?_) (λD=>?_));exact absurd (eq_of_beq D) (by first|omega|decide);exact Aa 7 (λ_=>AK (Cy C C) (λw f h=>⟨(),f,(by rw[d];exact congrArg Value.bool (beq_false_of_ne oM)),tQ,h.exm,tQ⟩))
theorem VO(w:wO)(f:Fq)(K:Vl w f)(c:UInt8)(G:rB c=true) :
  AO prog 49 #[.int .u8 c.toNat] w (AF (α:=Unit) (λ_=>.bool (IM c)) (λ_=>True) (λ_=>[]) w f):=by
 obtain⟨U,L,O,Q⟩:=RG G;refine Dq [] func49 C C C (AR K tQ tQ)<|Aa 8 (λ_=>B3 C C (eC fH C C) (λw f d=>M1 w f d.vl c G)<|Aa 1 (λ_=>A6 5 C C (λh=>?_) (λh=>?_)));exact Aa 19 (λ_=>AK (Cy C C) (λw f d=>⟨(),f,(by rw[Pe,h];rfl),tQ,d.exm,tQ⟩));refine Aa 4 (λ_=>A6 9 C C (λD=>?_) (λD=>?_));exact Aa 15 (λ_=>AK (Cy C C) (λw f d=>⟨(),f,(by rw[Pe,h,D];rfl),tQ,d.exm,tQ⟩));refine Aa 4 (λ_=>A6 13 C C (λF=>?_) (λF=>?_));exact Aa 11 (λ_=>AK (Cy C C) (λw f d=>⟨(),f,(by rw[Pe,h,D,F];rfl),tQ,d.exm,tQ⟩));refine Aa 4 (λ_=>A6 17 C C (λJ=>?_) (λJ=>?_));exact absurd (eq_of_beq J) (by first|omega|decide);exact Aa 7 (λ_=>AK (Cy C C) (λw f d=>⟨(),f,(by rw[Pe,h,D,F];exact congrArg Value.bool (beq_false_of_ne oM)),tQ,d.exm,tQ⟩))
theorem Y1(w:wO)(f:Fq)(h:Vl w f)  :
  AO prog 50 #[S [49]] w (AF (α:=Unit) (λ_=>.tuple #[.agg #[iV 2,iV 0,iV 0,iV 1,S []],.bool true]) (λ_=>True) (λ_=>[]) w f):=by
 exact Dq [] func50 C C C (AR h tQ tQ)<|Aa 10 (λb1=>λ_=>B3 C C (eC Xj C C) (λw f d=>YG w f d.vl)<|Af 24 [0] (y<|λ_=>VS (λw f d=>B5 C (Ac C bZ d.k0 C) (Ak C)) C))
theorem oC(w:wO)(f:Fq)(hv:Vl w f)(w0:lU)(F:UInt8)(G:w0[0]?=some F)(D:Eu F=true)(J:∀d∈w0,(Eu d||I3 d)=true)(h40:w0.length≤40) :
  AO prog 50 #[S w0] w (AF (α:=Unit) (λ_=>.tuple #[.agg #[iV 5,iV 0,iV 0,iV 0,S w0],.bool true]) (λ_=>True) (λ_=>[]) w f):=by
 have hrg:=JD D;have hwl:=(List.getElem?_eq_some_iff.1 G).1;refine Dq [] func50 C C C (AR hv tQ tQ)<|Aa 10 (λb1=>λ_=>B3 C C (eC Xj C C) (λw f h=>Yq w f h.vl w0 F G D)<|Aa 20 (λ_=>B3 C C (eC lI C C) (λw f h=>VB w f h.vl w0 F G D)<|Aa 24 (λ_=>A6 33 C C (λh1=>?_) (λh1=>?_))));exact absurd (dT h1) (by first|omega|decide);refine Aa 4 (λ_=>Ca [0] Aj (rd [0,1,3,4] (.br 2 (.br 5 (.rd 6 (.rd 7 .fin)) .fin) .fin)) C kR<|AN 1 (λ_=>CP C C C (λw hK=>CF C C Fp dC G)<|AN 1 (λ_=>CP C C C (λw hK=>CF C C Fp dC G)<|Ah C<|B3 C C (eC Xc C C) (λw f h=>MD w f h.vl F (J _ (List.mem_of_getElem? G)))<|Aa 1 (λ_=>Am [0] C ?_))));refine Ah C<|B3 C C (eC W6 C C) (λw f h=>O3 w f h.vl F D)<|Aa 1 (λ_=>Am [0] C<|AN 2 (λ_=>Bp<|Aa 13 (λ_=>?_)));refine D6 (α:=Nat) (λx=>w0.length-x) (λx=>x≤w0.length) (λx=>(E6 0 (S w0) 2 (pB b1) 8 (.bool false) 9 (.bool true) 10 (.bool (Nat.beq x 0)) 11 (iV (x:Int)))) (λx=>X0 w f) (λx=>[⟨b1,[iV 0,iV 0,iV 0,iV 0,.string ⟨#[]⟩],61,true⟩]) (λx=>[]) (λx=>[]) (λx=>[]) (0) (Nat.zero_le _) lE (λw f h=>h) ?_;rintro i hi;refine Aa 9 (λ_=>A6 44 C C (λW=>?_) (λW=>?_));refine Aa 6 (λ_=>?_);have hil:i<w0.length:=by have:=dT W;omega
 refine Aa 36 (aI oM<|λc1 Y=>λ_=>?_)
 skip
 refine B3 C C (eC Xc C C) (λw f h=>MD w f h.vl c1 (J _ (List.mem_of_getElem? Y)))<|Aa 4 (aI oM<|λc2 Z=>λ_=>?_)
 skip
 refine B3 C C (eC RX C C) (λw f h=>Jk w f h.vl c2)<|Aa 2 (λ_=>A6 84 C C (λh3=>?_) (λh3=>?_));refine Aa 9 (λ_=>?_)
 cases i with
 |zero =>
  refine Aa 6 (aI oM<|λc3 K=>λ_=>?_);have hc3w:c3.toNat=F.toNat:=by rw[Option.some.inj (K.symm.trans G)]
  refine B3 C C (eC RX C C) (λw f h=>Jk w f h.vl c3)<|Aa 1 (λ_=>A6 97 C C (λO=>?_) (λO=>?_));exact absurd ((Option.some.inj (K.symm.trans G)▸O:I3 F=true)) (by unfold I3;simp;omega);refine Aa 6 (aI oM<|λc4 L=>λ_=>?_);have Q:c4.toNat=F.toNat:=by rw[Option.some.inj (L.symm.trans G)]
  refine Aa 3 (λ_=>A6 106 C C (λU=>?_) (λU=>?_));exact absurd (eq_of_beq U) (by first|omega|decide);exact Aa 15 (aI ⟨oM,oM⟩<|λ_=>C0 (0+1) (show w0.length-(0+1)<w0.length-0 by omega) (show 0+1≤w0.length by omega) lE (λw f h=>⟨_,h⟩))
 |succ i =>
  exact Aa 32 (aI ⟨oM,oM⟩<|λ_=>C0 ((i+1)+1) (show w0.length-((i+1)+1)<w0.length-(i+1) by omega) (show (i+1)+1≤w0.length by omega) lE (λw f h=>⟨_,h⟩))
 refine Aa 3 (aI oM<|λc3 K=>λ_=>?_)
 skip
 have hsl:Eu c3=true:=by have h9:=J _ (List.mem_of_getElem? K);rw[show I3 c3=false from (by rw[Option.some.inj (K.symm.trans Z)];exact h3)] at h9;simpa using h9
 refine B3 C C (eC W6 C C) (λw f h=>O3 w f h.vl c3 hsl)<|Aa 5 (λ_=>?_)
 cases i with
 |zero =>
  refine Aa 6 (aI oM<|λc4 L=>λ_=>?_);have Q:c4.toNat=F.toNat:=by rw[Option.some.inj (L.symm.trans G)]
  refine B3 C C (eC RX C C) (λw f h=>Jk w f h.vl c4)<|Aa 1 (λ_=>A6 97 C C (λO=>?_) (λO=>?_));exact absurd ((Option.some.inj (L.symm.trans G)▸O:I3 F=true)) (by unfold I3;simp;omega);refine Aa 6 (aI oM<|λc5 hc5=>λ_=>?_);have hc5w:c5.toNat=F.toNat:=by rw[Option.some.inj (hc5.symm.trans G)]
  refine Aa 3 (λ_=>A6 106 C C (λU=>?_) (λU=>?_));exact absurd (eq_of_beq U) (by first|omega|decide);exact Aa 15 (aI ⟨oM,oM⟩<|λ_=>C0 (0+1) (show w0.length-(0+1)<w0.length-0 by omega) (show 0+1≤w0.length by omega) lE (λw f h=>⟨_,h⟩))
 |succ i =>
  exact Aa 32 (aI ⟨oM,oM⟩<|λ_=>C0 ((i+1)+1) (show w0.length-((i+1)+1)<w0.length-(i+1) by omega) (show (i+1)+1≤w0.length by omega) lE (λw f h=>⟨_,h⟩))
 refine Aa 3 (λ_=>Dl<|Aa 4 (λ_=>?_));obtain⟨q,rfl⟩:∃q,i=q+1:=⟨i-1,by have:=dF W;omega⟩;exact Af 33 [0] (y<|λ_=>VS (λw f h=>B5 C (Ac C bZ h.k0 C) (Ak C)) C)
theorem Uu(w:wO)(f:Fq)(h:Vl w f)(u:lU)(hu:rC u=true):AO prog 50 #[S u] w (AF (α:=Unit) (λ_=>.tuple #[.agg #[iV (Uo u 0).k,iV 0,iV 0,iV (Uo u 0).nm,S (Uo u 0).tx],.bool true]) (λ_=>True) (λ_=>[]) w f):=by
 rcases XF hu with rfl|⟨c,t,rfl,d,D,F,G⟩
 · exact Y1 w f h
 ·
  unfold Uo;rw[if_neg (by simpa using d)];exact oC w f h (c::t) c C D F G
theorem Vv(w:wO)(f:Fq)(hv:Vl w f)(src:lU)(l:List AB)(n:Nat)(hsl:src.length≤60000)(L:Ci n 0 src=some l) :
  AO prog 11 #[S src] w (AF (α:=oA×Nat) (λx=>.tuple #[.slice x.1 l.length x.2,.agg #[iV 0,iV 0],iV 0]) (λ_=>True) (λx=>[λw f=>IJ Y3 w f l x.1 x.2]) w f):=by
 have hll9:=HP _ _ _ _ L;have Y:=H9 _ _ _ _ L;refine Dq [] func11 C C C (AR hv tQ tQ)<|Aa 15 (λb1=>λ_=>?_)
 ·
  refine A6 22 C C (λh1=>?_) (λh1=>?_);exact absurd (dT h1) (by first|omega|decide);refine Aa 8 (aI ⟨oM,oM⟩<|λ_=>mmk (m:=src.length+1) C C ZE C C C C oM (by unfold maxLen;omega) λG=>Af 17 [0] (λb2=>y<|λ_=>?_));refine D6 (α:=Nat×Nat) (λx=>src.length-x.1) (λx=>x.1+x.2=src.length+1∧x.1≤src.length) (λx=>(E7 0 (S src) 2 (.slice none 0 0) 3 (pB b1) 4 (iV 0) 5 (.slice (some ⟨G,0,none⟩) (src.length+1) (src.length+1)) 6 (pB b2) 7 (iV (x.1:Int)))) (λx=>X0 w f) (λx=>[⟨b2,[iV 1,iV ((x.1:Int)+1)],27,true⟩,⟨b1,[iV 0,iV 0],27,true⟩]) (λx=>[⟨27,2,some ⟨G,0,none⟩,src.length+1,src.length+1,pM x.1 x.2⟩]) (λx=>[]) (λx=>[]) ((0,src.length+1)) ⟨Nat.zero_add _,Nat.zero_le _⟩ lE (λw f d=>d) ?_;rintro⟨i,m⟩ ⟨him,hi⟩;dsimp only at him hi ⊢;refine Aa 9 (λ_=>A6 32 C C (λh2=>?_) (λh2=>?_));refine Aa 6 (λ_=>?_);have O:i<src.length:=by have:=dT h2;omega
  obtain⟨m,rfl⟩:∃q,m=q+1:=⟨m-1,oM⟩;refine Af 5 [0] (y<|aI oM<|λ_=>mrs 0 (pM (i+1) m) C C C C FH C C C (by simp only[Nat.zero_add,List.length_cons,List.length_nil,Int.toNat_natCast];omega) (by rw[Nat.zero_add,Int.toNat_natCast];exact nN _ _) C<|Af 12 [0,0] (y<|aI ⟨oM,oM⟩<|y<|λ_=>Aa 4 (aI oM<|λc1 Q=>λ_=>?_)));have hkb:=RG (Y _ (List.mem_of_getElem? Q));refine Aa 3 (λ_=>A6 46 C C (λW=>?_) (λW=>?_));exact absurd (eq_of_beq W) (by first|omega|decide);exact Aa 9 (aI ⟨oM,oM⟩<|λ_=>C0 ((i+1,m)) (show src.length-(i+1)<src.length-i by omega) ⟨show i+1+m=_ by omega,show i+1≤_ by omega⟩ lE (λw f d=>⟨_,d⟩));refine Aa 3 (λ_=>Dl<|Aa 3 (λ_=>?_));obtain rfl:i=src.length:=by have:=dF h2;omega
  obtain rfl:m=1:=oM;refine nA 0 C C<|Aa 11 (λ_=>KR 61 5 ?_);refine D6 (α:=Nat×List AB×List AB×oA×Nat) (λx=>src.length-x.1) (λx=>x.1≤src.length∧l=x.2.1++x.2.2.1∧∃m,Ci m x.1 (src.drop x.1)=some x.2.2.1) (λx=>(E7 0 (S src) 2 (.slice none 0 0) 3 (pB b1) 4 (iV 0) 5 (.slice (some ⟨G,0,none⟩) (src.length+1) (src.length+1)) 8 (.slice x.2.2.2.1 x.2.1.length x.2.2.2.2) 9 (iV (x.1:Int)))) (λx=>X0 w f) (λx=>[⟨b1,[iV 0,iV 0],27,true⟩]) (λx=>[⟨61,5,x.2.2.2.1,x.2.2.2.2,x.2.1.length,x.2.1.flatMap Y3⟩]) (λx=>[⟨G,0,pM src.length 1⟩]) (λx=>[]) ((0,[],l,none,0)) ⟨Nat.zero_le _,C,_,L⟩ lE (λw f d=>d.less (sD (sK sZ)) sR (λ_ h=>h) (λ_ h=>h)) ?_;rintro⟨i,D,l2,oa,oc⟩ ⟨hi,F,m,hm⟩;dsimp only at hi F hm ⊢;have hl1:D.length≤src.length:=by have Z:=congrArg List.length F;rw[List.length_append] at Z;omega
  refine Aa 9 (λ_=>A6 54 C C (λW=>?_) (λW=>?_));refine Aa 5 (λ_=>?_);have O:i<src.length:=by have:=dT W;omega
  obtain⟨c,hc,hd⟩:=jP hm O;have hok:=TR (j:=0) hm hc;have hkn:=RG hok;refine Ja (α:=Unit) (λx=>True) (λx=>[⟨G,0+i*2,plC (1,(i:Int)+1)⟩]) (λx=>[]) (λw f d=>⟨(),tQ,(λe he=>by cases he with|head=>exact nZ d.b0 O|tail _ h=>cases h),λ_ h=>by cases h⟩) (λx=>Ap.mem tQ) ?_;rintro⟨⟩ -;refine Ca [0] Aj (rd [0,1,2,3,4,5,6] (.br 7 (.rd 8 (.br 9 .fin .fin)) .fin)) C kR<|AN 2 (λ_=>CP C C C (λw hK=>CF C C Fp oM hc)<|Bh 4 [100,0] (aI oM<|y2<|λ_=>Ah C<|Aa 2 (λb3=>λ_=>Am [1] C<|AN 1 (λ_=>Ah C<|Af 2 [0] (y<|λ_=>?_)))));refine Am [1] C<|Bp<|Aa 5 (λ_=>B3 C C (eC fH C C) (λw f d=>M1 w f d.vl c hok)<|Aa 2 (λ_=>A6 63 C C (λh4=>?_) (λh4=>?_)));refine Aa 11 (aI ⟨oM,oM⟩<|λ_=>?_);obtain⟨m2,J⟩:=jF (hd▸hm) ((zC c 32).symm.trans h4);exact C0 ((i+1,D,l2,oa,oc)) (show src.length-(i+1)<src.length-i by omega) ⟨show i+1≤_ by omega,F,m2,J⟩ lE (λw f d=>⟨_,d.less (sD (sK sZ)) sR (λ_ h=>.tail _ (h)) (λ_ h=>h)⟩);refine Aa 10 (λ_=>A6 67 C C (λh5=>?_) (λh5=>?_));exact absurd (eq_of_beq h5) (by first|omega|decide);refine Aa 9 (λ_=>A6 82 C C (λh6=>?_) (λh6=>?_));refine Aa 7 (λ_=>?_);have h40:40≤c.toNat∧c.toNat≤41:=by have:=eq_of_beq h6;omega
  refine Aa 3 (λ_=>Cz C C (λw f d=>DO ((c.toNat:Int)-40) C C (PZ ⟨oM,oM⟩))<|Cz C C (λw f d=>Cg (m:=(c.toNat:Int)-40) C eL (Hv ⟨oM,oM⟩))<|Af 3 [0] (y<|λb4=>λ_=>BW 0 0 C C cN C C C C C C C C (λ_ _=>C) oM oM λra rc=>Aa 13 (aI ⟨oM,oM⟩<|λ_=>?_)));obtain⟨m2,l3,J,rfl⟩:=WC (hd▸hm) (.inl ((zC c 40).symm.trans h6));exact C0 ((i+1,D++[⟨(c.toNat:Int)-40,1,(i:Int)+1,0,[]⟩],l3,ra,rc)) (show src.length-(i+1)<src.length-i by omega) ⟨show i+1≤_ by omega,by rw[F];simp,m2,J⟩ ((by have e:(D++[(⟨(c.toNat:Int)-40,1,(i:Int)+1,0,[]⟩:AB)]).length=D.length+1:=(by simp);dsimp only;rw[e];exact A2 lE C)) (λw f d=>⟨_,(by have e:(D++[(⟨(c.toNat:Int)-40,1,(i:Int)+1,0,[]⟩:AB)]).length=D.length+1:=(by simp);dsimp only;rw[e,HV];exact d.less (sD (sD (sK sZ))) sR (λ_ h=>.tail _ (h)) (λ_ h=>h))⟩);refine Aa 5 (λ_=>A6 85 C C (λh7=>?_) (λh7=>?_));refine Aa 2 (λ_=>?_);have h40:40≤c.toNat∧c.toNat≤41:=by have:=eq_of_beq h7;omega
  refine Aa 3 (λ_=>Cz C C (λw f d=>DO ((c.toNat:Int)-40) C C (PZ ⟨oM,oM⟩))<|Cz C C (λw f d=>Cg (m:=(c.toNat:Int)-40) C eL (Hv ⟨oM,oM⟩))<|Af 3 [0] (y<|λb4=>λ_=>BW 0 0 C C cN C C C C C C C C (λ_ _=>C) oM oM λra rc=>Aa 13 (aI ⟨oM,oM⟩<|λ_=>?_)));obtain⟨m2,l3,J,rfl⟩:=WC (hd▸hm) (.inr ((zC c 41).symm.trans h7));exact C0 ((i+1,D++[⟨(c.toNat:Int)-40,1,(i:Int)+1,0,[]⟩],l3,ra,rc)) (show src.length-(i+1)<src.length-i by omega) ⟨show i+1≤_ by omega,by rw[F];simp,m2,J⟩ ((by have e:(D++[(⟨(c.toNat:Int)-40,1,(i:Int)+1,0,[]⟩:AB)]).length=D.length+1:=(by simp);dsimp only;rw[e];exact A2 lE C)) (λw f d=>⟨_,(by have e:(D++[(⟨(c.toNat:Int)-40,1,(i:Int)+1,0,[]⟩:AB)]).length=D.length+1:=(by simp);dsimp only;rw[e,HV];exact d.less (sD (sD (sK sZ))) sR (λ_ h=>.tail _ (h)) (λ_ h=>h))⟩);refine Aa 10 (λ_=>A6 97 C C (λh8=>?_) (λh8=>?_));refine Aa 2 (λ_=>?_);have hbe:IM c=false:=by rw[Pe,h4,h6,h7];rfl
  obtain⟨m2,l3,hwk,J,rfl,hwn,hwp⟩:=fC hm hc hbe;refine Aa 7 (λ_=>?_);refine D6 (α:=Nat) (λj=>(Gh (src.drop i)).length-j) (λj=>j≤(Gh (src.drop i)).length) (λj=>(E9 0 (S src) 2 (.slice none 0 0) 3 (pB b1) 4 (iV 0) 5 (.slice (some ⟨G,0,none⟩) (src.length+1) (src.length+1)) 8 (.slice oa D.length oc) 9 (iV (i:Int)) 11 (pB b3) 12 (iV ((i+j:Nat):Int)))) (λj=>X0 w f) (λj=>[⟨b3,[iV 1,iV ((i:Int)+1)],27,true⟩,⟨b1,[iV 0,iV 0],27,true⟩]) (λj=>[⟨61,5,oa,oc,D.length,D.flatMap Y3⟩]) (λj=>[⟨G,0,pM src.length 1⟩]) (λj=>[]) (0) (Nat.zero_le _) lE (λw f d=>d.less sR sR (λ_ h=>.tail _ (h)) (λ_ h=>h)) ?_;rintro j hj;refine Aa 8 (λ_=>A6 103 C C (λZ=>?_) (λZ=>?_));refine Aa 2 (λ_=>?_);have hij:=dT Z;refine Aa 1 (aI oM<|λc1 Q=>λ_=>?_);have U:src[i+j]?=some c1:=Q;refine B3 C C (eC xN C C) (λw f d=>VO w f d.vl c1 (TR hm U))<|Aa 4 (λ_=>A6 109 C C (λK=>?_) (λK=>?_));replace K:=Ee K;refine Aa 10 (aI ⟨oM,oM⟩<|λ_=>?_);have hgo:=wd_go hj U K;exact C0 (j+1) (show (Gh (src.drop i)).length-(j+1)<(Gh (src.drop i)).length-j by omega) hgo lE (λw f d=>⟨_,d⟩);replace K:=Eh K;refine Aa 3 (λ_=>Dl<|Aa 3 (λ_=>?_));obtain rfl:=mE hj U K
  rotate_left
  refine Aa 11 (λ_=>Dl<|Aa 3 (λ_=>?_));obtain rfl:=xI hj (by have:=dF Z;omega)
  rotate_left
  exact absurd (bne_eq_false_iff_eq.1 h8) (by first|omega|decide);refine Aa 3 (λ_=>Dl<|Af 12 [0] (y<|λ_=>?_));obtain rfl:i=src.length:=by have:=dF W;omega
  rw[List.drop_length] at hm;obtain rfl:=cH hm;rw[List.append_nil] at F;subst F;exact AK (λw f d=>Ez C (Ak C) (Ac C FH d.k0 C) (Ak C)) (λw f d=>let ⟨f2,hM2,hF⟩:=cP d;⟨(oa,oc),f2,C,tQ,hM2.exm,⟨hF,tQ⟩⟩)
  all_goals
   exact Aa 4 (λ_=>Cz C C (λw f d=>oW C C C Fp ⟨oM,oM,oM⟩ xF)<|B3 C C (eC tM C C) (λw f d=>Uu w f d.vl _ hwk)<|Af 30 [0,1,0,0] (λb4=>y<|y<|y<|y<|λb5=>λ_=>BW 0 0 C C cN C C C C C C C C (λ_ _=>C) oM oM λra rc=>Aa 12 (λ_=>C0 ((i+(Gh (src.drop i)).length,D++[Uo (Gh (src.drop i)) i],l3,ra,rc)) (show src.length-(i+(Gh (src.drop i)).length)<src.length-i by omega) ⟨hwn,by rw[F];simp,m2,J⟩ ((by have e:(D++[Uo (Gh (src.drop i)) i]).length=D.length+1:=(by simp);dsimp only;rw[e];exact A2 lE C)) (λw f d=>⟨_,(by have e:(D++[Uo (Gh (src.drop i)) i]).length=D.length+1:=(by simp);dsimp only;rw[e,HV,tkR_c];exact d.less (sD (sD (sD (sK sZ)))) sR (λ_ h=>h) (λ_ h=>h))⟩))))

end Go.Proofs.YtplnpgpagkpnmaaGreatDoor
namespace Go.SP
open Go.SW Go.RowKit
variable {l2:List AB}{d i i2 j m:Nat}
theorem aY{α:Type}{l:List α}(D:i≤l.length)(F:j≤l.length)(h:l.drop i=l.drop j):i=j:=by
 have:=congrArg List.length h;rw[List.length_drop,List.length_drop] at this;omega
theorem mQ{L:List AB}{x:Fo}{b:Bool}(h:DB m d (L.drop i)=some (x,l2,b))(G:i≤L.length)(D:i2≤L.length)(e:l2=L.drop i2):i≤i2∧x.len+i≤i2:=by
 obtain⟨j,F,rfl,J⟩:=GO h;rw[List.drop_drop] at e;rw[List.length_drop] at F;have:=aY oM D e;omega
theorem SF{L:List AB}{x:Fo}{b:Bool}(h:DB m d (L.drop i)=some (x,l2,b)):x.len≤L.length:=by
 obtain⟨j,D,_,F⟩:=GO h;rw[List.length_drop] at D;omega
section
variable(P:Program)(fid:FuncId)(T:TypeId)
abbrev TopF(m:Nat):Prop:=∀(w:World)(f:Fq)(_:Vl w f)(h:Nat)(_:AE w h [.bool false,.int .i64 0,.int .i64 0] T)(t:AB)(k:Fo)(a:Option Addr)(c:Nat)(x:N),cM m t k=some x→Cv w f k a c →
 AO P fid #[.pointer (some ⟨h,0,none⟩),fV t a k.len c] w (AF (α:=Option Addr×Nat) (λy=>nV x.op x.ln x.co x.tx x.nm x.kids y.1 y.2) (λ_=>True) (λy=>[λw f=>AJ w f x.kids y.1 y.2]) w f)
end
theorem QP{t:AB}(h:RJ t=true):∃ln co nm c s,t=⟨5,ln,co,nm,c::s⟩∧Kl.contains (c::s)=false∧Eu c=true:=by
 obtain⟨D,F,c,s,G,J⟩:=cJ h;obtain⟨k,ln,co,nm,tx⟩:=t;simp only at D F G;subst D;subst G;exact⟨ln,co,nm,c,s,C,F,J⟩
end Go.SP
namespace Go.SW
variable {xs:List Value}{n:Nat}{a:Option Addr}{e:TypeId}{w:World}
theorem BO.cap{size:Nat}{c:Nat}(h:BO w e size a c n xs):n≤c:=by
 rcases h.2 with ⟨_,F,G⟩|⟨b,l,_,_,D,_⟩
 · omega
 · exact D
end Go.SW
namespace Go.Proofs.YtplnpgpagkpnmaaGreatDoor
open Go.SW Go.SP Go.RowKit Go.Proofs.Tryz
theorem cL(w:wO)(f:Fq)(Q:Vl w f)(u:lU)(l:List lU)(a:oA)(c:Nat)(Z:l.length≤1000000)(U:IJ sC w f l a c) :
  AO prog 109 #[S u,.slice a l.length c] w (AF (α:=Unit) (λ_=>.bool (l.contains u)) (λ_=>True) (λ_=>[]) w f):=by
 refine Dq [λw f=>IJ sC w f l a c] func109 C C C (AR Q ⟨U,tQ⟩ ⟨IJ.mono,tQ⟩)<|Aa 12 (λ_=>?_);refine D6 (α:=Nat) (λi=>l.length-i) (λi=>i≤l.length∧(l.take i).contains u=false) (λi=>(E3 0 (S u) 1 (.slice a l.length c) 5 (iV (i:Int)))) (λi=>X0 w f) (λi=>[]) (λi=>[]) (λi=>[]) (λi=>[λw f=>IJ sC w f l a c]) (0) ⟨Nat.zero_le _,C⟩ lE (λw f d=>d) ?_;rintro i ⟨hi,D⟩;refine Aa 9 (λ_=>A6 9 C C (λF=>?_) (λF=>?_));refine Aa 6 (λ_=>?_);have K:i<l.length:=by have:=dT F;omega
 obtain⟨v0,L⟩:∃v,l[i]?=some v:=⟨_,List.getElem?_eq_getElem K⟩;refine Ja (α:=Nat×Nat) (λx=>a=some ⟨x.1,x.2,none⟩) (λx=>[⟨x.1,x.2+i*1,[S v0]⟩]) (λx=>[]) (λw f d=>let ⟨b,off,F,G⟩:=IJ.get 1 (λ_=>C) d.f0 L;⟨(b,off),F,(oE G),λ_ h=>by cases h⟩) (λx=>Ap.mem tQ) ?_;rintro⟨b,off⟩ rfl;refine Af 9 [100,0] (aI oM<|y2<|λ_=>A6 17 C C (λG=>?_) (λG=>?_));exact Aa 9 (λ_=>So<|Aa 2 (λ_=>AK (Cy C C) (λw f d=>⟨(),f,(by rw[show l.contains u=true from (by rw[← eq_of_beq G];exact List.contains_iff_mem.2 (List.mem_of_getElem? L))]),tQ,d.exm,tQ⟩)));refine Aa 9 (aI ⟨oM,oM⟩<|λ_=>?_);have J:(l.take (i+1)).contains u=false:=by rw[Dx L];have W:¬v0=u:=(by simpa using G);have h8:u∉l.take i:=(by simpa using D);have Y:¬u=v0:=λe=>W e.symm;simp[Y,h8]
 exact C0 (i+1) (show l.length-(i+1)<l.length-i by omega) ⟨show i+1≤_ by omega,J⟩ lE (λw f d=>⟨_,d.less sR sR nE (λ_ h=>h)⟩);refine Aa 3 (λ_=>Dl<|Aa 8 (λ_=>?_));have O:l.length≤i:=by have:=dF F;omega
 rw[List.take_of_length_le O] at D;exact AK (Cy C C) (λw f d=>⟨(),f,(by rw[D]),tQ,d.exm,tQ⟩)
theorem Kw(w:wO)(f:Fq)(h:Vl w f)(u:lU) :
  AO prog 111 #[S u] w (AF (α:=Unit) (λ_=>.bool (Kl.contains u)) (λ_=>True) (λ_=>[]) w f):=by
 exact Dq [] func111 C C C (AR h tQ tQ)<|Aa 9 (λb1=>λ_=>CJ 0 C C<|B3 C C (eC mO C C) (λw f d=>cL w f d.vl u Kl (some ⟨b1,0,none⟩) 14 dC ⟨Nat.le_refl _,.inr ⟨b1,0,C,d.b0⟩⟩)<|Aa 4 (λ_=>AK (Cy C C) (λw f d=>⟨(),f,C,tQ,d.exm,tQ⟩)))
theorem Jt(w:wO)(f:Fq)(J:Vl w f)(ln co nm:Int)(c0:UInt8)(h:lU)(K:Kl.contains (c0::h)=false)(d:Eu c0=true)(a:oA)(n c:Nat) :
  AO prog 59 #[.agg #[iV 5,iV ln,iV co,iV nm,S (c0::h),.slice a n c]] w (AF (α:=Unit) (λ_=>.bool true) (λ_=>True) (λ_=>[]) w f):=by
 refine Dq [] func59 C C C (AR J tQ tQ)<|Af 16 [0,0] (λb1=>y<|y<|λ_=>B3 C C (eC Rd C C) (λw f F=>Kw w f F.vl (c0::h))<|Aa 3 (λ_=>A6 14 C C (λD=>?_) (λD=>?_)));replace D:=Ee D;refine Af 6 [0] (y<|λ_=>A6 20 C C (λG=>?_) (λG=>?_));exact Af 3 [0] (y<|λ_=>Cz C C (λw f F=>GJ C C Fp ⟨dC,by simp only[List.length_cons];omega⟩)<|Aa 6 (λ_=>AK (Cy C C) (λw f F=>⟨(),f,(congrArg (λb=>Value.bool (!b)) (bP (s:=h) d)),tQ,F.exm,tQ⟩)));exact absurd (by simpa using G) (λL:c0::h=[95]=>absurd (sQ (s:=h) d) (by rw[L];decide));replace D:=Eh D;exact absurd (K.symm.trans D) dC
theorem U7(w:wO)(f:Fq)(F:Vl w f)(ln co nm:Int)(c0:UInt8)(h:lU)(G:Kl.contains (c0::h)=false)(d:Eu c0=true)(a:oA)(n c:Nat) :
  AO prog 148 #[.agg #[iV 5,iV ln,iV co,iV nm,S (c0::h),.slice a n c]] w (AF (α:=Unit) (λ_=>.bool true) (λ_=>True) (λ_=>[]) w f):=by
 exact Dq [] func148 C C C (AR F tQ tQ)<|Af 9 [0] (λb1=>y<|λ_=>B3 C C (eC Wb C C) (λw f D=>Jt w f D.vl ln co nm c0 h G d a n c)<|Aa 16 (λ_=>AK (Cy C C) (λw f D=>⟨(),f,C,tQ,D.exm,tQ⟩)))
theorem VK(w:wO)(f:Fq)(d:Vl w f)(ln co nm:Int)(tx:lU)(a:oA)(n c:Nat) :
  AO prog 56 #[.agg #[iV 0,iV ln,iV co,iV nm,S tx,.slice a n c]] w (AF (α:=Unit) (λ_=>.bool true) (λ_=>True) (λ_=>[]) w f):=by
 exact Dq [] func56 C C C (AR d tQ tQ)<|Af 16 [0] (λb1=>y<|λ_=>AK (Cy C C) (λw f h=>⟨(),f,C,tQ,h.exm,tQ⟩))
theorem Gq(w:wO)(f:Fq)(K:Vl w f)(ln co nm:Int)(tx:lU)(gl gc F:Int)(d:lU)(G r:Fo)(n:Nat)(h:oA)(lc:Nat)(W:r.len=n)(L:n≤100000)(O:Cv w f (.cons ⟨5,gl,gc,F,d⟩ G r) h lc) :
  AO prog 53 #[.agg #[iV 0,iV ln,iV co,iV nm,S tx,.slice h (n+1) lc]] w (AF (α:=Unit) (λ_=>S d) (λ_=>True) (λ_=>[]) w f):=by
 refine Dq [λw f=>Cv w f (.cons ⟨5,gl,gc,F,d⟩ G r) h lc] func53 C C C (AR K ⟨O,tQ⟩ ⟨Cv.mono,tQ⟩)<|Aa 8 (λb1=>λ_=>Ng 0 C<|KO 0 C ?_);rintro⟨Q,U,ka,kc⟩ rfl;refine Af 2 [0] (y<|λ_=>B3 C C (eC wL C C) (λw f D=>VK w f D.vl ln co nm tx (some ⟨Q,U,none⟩) (n+1) lc)<|Af 7 [0] (y<|λ_=>A6 11 C C (λJ=>?_) (λJ=>?_)));exact Af 24 [0,100,0,0,100,4] (y<|aI oM<|y2<|y<|aI oM<|y2<|λ_=>AK (Cy C C) (λw f D=>⟨(),f,C,tQ,D.exm,tQ⟩));exact absurd (by first|omega|decide) (dF J)
theorem V7(w:wO)(f:Fq)(hv:Vl w f)(L:List AB)(Q:oA)(lc:Nat)(hL:L.length≤100000)(hw:IC 0 L=0)(hI:IJ Y3 w f L Q lc) :
  AO prog 13 #[.slice Q L.length lc] w (AF (α:=Unit) (λ_=>.tuple #[.agg #[iV 0,iV 0],.bool false]) (λ_=>True) (λ_=>[]) w f):=by
 refine Dq [λw f=>IJ Y3 w f L Q lc] func13 C C C (AR hv ⟨hI,tQ⟩ ⟨IJ.mono,tQ⟩)<|Aa 18 (λb1=>λ_=>KR 27 2 ?_);refine D6 (α:=Nat×Nat×lV×oA×Nat) (λx=>L.length-x.1) (λx=>x.1≤L.length∧x.2.1≤x.1∧IC x.2.1 (L.drop x.1)=0) (λx=>(E4 0 (.slice Q L.length lc) 2 (pB b1) 4 (.slice x.2.2.2.1 x.2.1 x.2.2.2.2) 5 (iV (x.1:Int)))) (λx=>X0 w f) (λx=>[⟨b1,[iV 0,iV 0],27,true⟩]) (λx=>[⟨27,2,x.2.2.2.1,x.2.2.2.2,x.2.1,x.2.2.1⟩]) (λx=>[]) (λx=>[λw f=>IJ Y3 w f L Q lc]) ((0,0,[],none,0)) ⟨Nat.zero_le _,Nat.le_refl _,hw⟩ lE (λw f D=>D) ?_;rintro⟨i,k,xs,wa,wc⟩ ⟨hi,Z,hw⟩;dsimp only at hi Z hw ⊢;refine Aa 9 (λ_=>?_)
 ·
  refine A6 9 C C (λU=>?_) (λU=>?_);refine Aa 7 (λ_=>?_);have W:i<L.length:=by have:=dT U;omega
  obtain⟨t,ht⟩:∃t,L[i]?=some t:=⟨_,List.getElem?_eq_getElem W⟩;have hd:L.drop i=t::L.drop (i+1):=by rw[List.drop_eq_getElem_cons W,(List.getElem?_eq_some_iff.1 ht).2]
  refine Ja (α:=Nat×Nat) (λx=>Q=some ⟨x.1,x.2,none⟩) (λx=>[⟨x.1,x.2+i*5,Y3 t⟩]) (λx=>[]) (λw f D=>let ⟨b,off,U,J⟩:=IJ.get 5 (λ_=>C) D.f0 ht;⟨(b,off),U,(oE J),λ_ h=>by cases h⟩) (λx=>Ap.mem tQ) ?_;rintro⟨tb,tq⟩ rfl;refine Af 9 [100,0] (aI oM<|y2<|λ_=>A6 17 C C (λJ=>?_) (λJ=>?_));refine Af 9 [100,1] (aI oM<|y2<|λb2=>λ_=>BW 0 0 C C ZE C C C C C C C C (λ_ _=>C) oM oM λwa2 wc2=>Af 12 [100,0] (aI oM<|y2<|λ_=>A6 32 C C (λK=>?_) (λK=>?_)));exact absurd ((eq_of_beq J).symm.trans (eq_of_beq K)) dC;refine Aa 15 (aI ⟨oM,oM⟩<|λ_=>?_);have d:=Rf hw hd;have F:IC (k+1) (L.drop (i+1))=0:=by have G:=d;rw[if_pos J] at G;exact G
  exact C0 ((i+1,k+1,xs++[iV t.ln,iV t.co],wa2,wc2)) (show L.length-(i+1)<L.length-i by omega) ⟨show i+1≤_ by omega,(show k+1≤i+1 by omega),F⟩ lE (λw f D=>⟨_,D.less (sD (sK sZ)) sR nE (mR [0])⟩);refine Af 12 [100,0] (aI oM<|y2<|λ_=>A6 32 C C (λK=>?_) (λK=>?_));refine Aa 6 (λ_=>A6 36 C C (λh4=>?_) (λh4=>?_));refine Aa 1 (λ_=>?_);obtain⟨q,rfl⟩:∃q,k=q+1:=⟨k-1,by have:=dT h4;omega⟩;refine Aa 5 (aI ⟨oM,oM⟩<|λ_=>IF (λw f D=>(D.row _ (.head _)).cap) λY=>?_);dsimp only at Y;refine Cz C C (λw f D=>Ow (i:=q) oM C C hZ oM)<|mrk q (Nat.le_succ q)<|Aa 9 (aI ⟨oM,oM⟩<|λ_=>?_);have d:=Rf hw hd;have F:IC q (L.drop (i+1))=0:=by have G:=d;rw[if_neg (by rw[J];decide),if_pos K] at G;exact G
  exact C0 ((i+1,q,xs.take (q*2),wa,wc)) (show L.length-(i+1)<L.length-i by omega) ⟨show i+1≤_ by omega,(show q≤i+1 by omega),F⟩ lE (λw f D=>⟨_,D.less (sK sZ) sR nE (mR [0])⟩);refine Aa 4 (λ_=>?_);have O:k=0:=by have:=dF h4;omega
  refine Aa 5 (aI ⟨oM,oM⟩<|λ_=>?_);have d:=Rf hw hd;have F:IC k (L.drop (i+1))=0:=by have G:=d;rw[if_neg (by rw[J];decide),if_pos K] at G;rw[O] at G;rw[O];exact G
  rotate_left
  refine Aa 15 (aI ⟨oM,oM⟩<|λ_=>?_);have d:=Rf hw hd;have F:IC k (L.drop (i+1))=0:=by have G:=d;rw[if_neg (by rw[J];decide),if_neg (by rw[K];decide)] at G;exact G
  rotate_left
  refine Aa 3 (λ_=>Dl<|Aa 4 (λ_=>?_));obtain rfl:i=L.length:=by have:=dF U;omega
  rw[List.drop_length] at hw;have O:k=0:=hw;refine Aa 6 (λ_=>A6 44 C C (λJ=>?_) (λJ=>?_));exact Af 10 [0] (y<|λ_=>VS (λw f D=>B5 C (Ac C FH D.k0 C) (Ak C)) C);exact absurd (by first|omega|decide) (ne_of_beq_false J)
  all_goals
   exact C0 ((i+1,k,xs,wa,wc)) (show L.length-(i+1)<L.length-i by omega) ⟨show i+1≤_ by omega,(show k≤i+1 by omega),F⟩ lE (λw f D=>⟨_,D.less (sK sZ) sR nE (mR [0])⟩)

theorem QQ(m:Nat)(ih:∀j,j<m→zK prog 12 48 j)(w:wO)(f:Fq)(hv:Vl w f)(rb:Nat)(L:List AB)(K:oA)(lc i0 d:Nat)(xx:Fo)(l2:List AB)(b:Bool)(hL:L.length≤100000)(hdd:d≤200)(hi0:i0≤L.length)(hs:DB m d (L.drop i0)=some (xx,l2,b))(hX:IW 48 rb K L.length lc i0 w f)(hf:f rb=0)(hI:IJ Y3 w f L K lc) :
  AO prog 12 #[pB rb,iV d] w (CY (α:=Nat×oA×Nat) (λy=>.tuple #[.slice y.2.1 xx.len y.2.2,.bool b]) (λy=>y.1≤L.length∧l2=L.drop y.1) (λb=>b=rb) (λy=>IW 48 rb K L.length lc y.1) (λy=>[λw f=>Cv w f xx y.2.1 y.2.2]) w f):=by
 refine Hm (X:=⟨λb=>b=rb,λb=>b=rb,IW 48 rb K L.length lc i0,w,f⟩) (H:=[]) (R:=[]) (B:=[]) (Fs:=[λw f=>IJ Y3 w f L K lc]) (f:=f) func12 C C C (LX (M:=λb=>b=rb) (I:=IW 48 rb K L.length lc i0) hv hX IW.stab (λb hb=>by cases hb;exact⟨AE.lt hX,hf⟩) ⟨hI,tQ⟩ ⟨IJ.mono,tQ⟩)<|Aa 13 (λ_=>KR 63 6 ?_);refine D6 (α:=Nat×Nat×Fo×Fo×lV×oA×Nat) (λx=>L.length-x.1) (λx=>x.1≤L.length∧x.2.1≤m∧DB x.2.1 d (L.drop x.1)=some (x.2.2.2.1,l2,b)∧xx=x.2.2.1.app x.2.2.2.1) (λx=>(E3 0 (pB rb) 1 (iV d) 6 (.slice x.2.2.2.2.2.1 x.2.2.1.len x.2.2.2.2.2.2))) (λx=>⟨λb=>b=rb,λb=>b=rb,IW 48 rb K L.length lc x.1,w,f⟩) (λx=>[]) (λx=>[⟨63,6,x.2.2.2.2.2.1,x.2.2.2.2.2.2,x.2.2.1.len,x.2.2.2.2.1⟩]) (λx=>[]) (λx=>[λw f=>IJ Y3 w f L K lc,λw f=>HW w f x.2.2.1 x.2.2.2.2.1]) ((i0,m,.nil,xx,[],none,0)) ⟨hi0,Nat.le_refl _,hs,C⟩ lE (λw f D=>D.more (B':=[]) (F':=[λw f=>HW w f .nil []]) nE (AA.mem ⟨C,tQ⟩) (Ap.mem ⟨HW.mono,tQ⟩) |>.less sR sR nE (mR [1,0])) ?_;rintro⟨i,m2,G,y0,xs,oa,oc⟩ ⟨hi,hm2,F,U⟩;dsimp only at hi hm2 F U ⊢;have hxl:G.len+y0.len≤100000:=by have h9:=SF hs;rw[U,Fo.len_app1] at h9;omega
 refine Aa 2 (λ_=>IQ (λw=>AE w rb [.slice K L.length lc,iV i,.bool false,iV 0,iV 0] 48) (λw f h _=>h) [] Aj (rd [0,1,2,3,4,5,6,7,8,9,10,11,12,13,14,15,16] .fin) C kR kR kR (λ_ _ _ _ _ h=>h)<|AN 3 (λ_=>CP C C C (λw O=>Ai C Gu O.2.2 C)<|AN 3 (λ_=>CP C C C (λw O=>Ai C pK O.2.2 C)<|AN 3 (λ_=>JG 20 C (λh1=>?_) (λh1=>?_)))));refine AN 3 (λ_=>CP C C C (λw O=>Ai C fB O.2.2 C)<|AN 2 (λ_=>Bp<|Aa 6 (λ_=>?_)));have hil:i<L.length:=by have:=dT h1;omega
 obtain⟨t,ht⟩:∃t,L[i]?=some t:=⟨_,List.getElem?_eq_getElem hil⟩;have hd:L.drop i=t::L.drop (i+1):=by rw[List.drop_eq_getElem_cons hil,(List.getElem?_eq_some_iff.1 ht).2]
 refine Ja (α:=Nat×Nat) (λx=>K=some ⟨x.1,x.2,none⟩) (λx=>[⟨x.1,x.2+i*5,Y3 t⟩]) (λx=>[]) (λw f D=>let ⟨b,off,h1,h2⟩:=IJ.get 5 (λ_=>C) D.f0 ht;⟨(b,off),h1,(oE h2),λ_ h=>by cases h⟩) (λx=>Ap.mem tQ) ?_;rintro⟨tb,tq⟩ rfl;rw[hd] at F;refine IQ (λw=>AE w rb [.slice (some ⟨tb,tq,none⟩) L.length lc,iV i,.bool false,iV 0,iV 0] 48) (λw f h _=>h) [] Aj (rd [0,1,2,3,4,5,6,7,8,9] (.br 10 (.br 11 .fin .fin) .fin)) C kR kR kR (λ_ _ _ _ _ h=>h)<|AN 3 (λ_=>CP C C C (λw O=>Ai C pK O.2.2 C)<|AN 3 (λ_=>CP C C C (λw O=>Ai C Gu O.2.2 C)<|Bh 2 [100,0] (aI oM<|y2<|λ_=>Ah C<|Aa 2 (λb1=>λ_=>AS [] (λw f h _=>h) C (λ_ h=>h)<|Ah C ?_))));refine Af 2 [0] (y<|λ_=>AS [] (λw f h _=>h) C (λ_ h=>h)<|Bp<|Aa 6 (λ_=>Cz C C (λw f D=>Ai C Gu D.res C)<|Aa 3 (aI ⟨oM,oM⟩<|λ_=>lZ (b:=rb) (I':=IW 48 rb (some ⟨tb,tq,none⟩) L.length lc (i+1)) C C C C Gu C C C C (λw f h=>h) (λw f w2 h D hC hb=>hb) IW.stab<|Af 10 [0] (y<|λ_=>A6 46 C C (λh2=>?_) (λh2=>?_)))));refine Aa 3 (λ_=>?_);obtain⟨Zs,rfl,rfl,rfl⟩:=NX F h2;refine Aa 5 (λ_=>A6 48 C C (λh3=>?_) (λh3=>?_));exact absurd (eq_of_beq h3) (by first|omega|decide);refine Aa 13 (λ_=>So<|Aa 2 (λ_=>?_));rw[Fo.app_nil1] at U;subst U;exact AK (λw f D=>B5 C (Ak C) (Ak C)) (λw f D=>let ⟨f2,J,hF⟩:=ZB D D.f1;⟨(i+1,oa,oc),f2,C,⟨show i+1≤_ by omega,C⟩,J.exm,J.res,⟨hF,tQ⟩⟩);refine Af 11 [0] (y<|λ_=>A6 56 C C (λh3=>?_) (λh3=>?_));refine Aa 2 (λ_=>?_);obtain⟨m3,Y,rfl,Q,rfl⟩:=P8 F (beq_false_of_ne (bne_iff_ne.1 h3)) h2;have hyl:(Fo.cons t .nil Y).len=Y.len+1:=rfl;exact Af 5 [0] (y<|λb2=>λ_=>BW 0 0 C C pX C C C C C C C C (λ_ _=>C) oM oM λZ oc2=>Aa 6 (λ_=>C0 ((i+1,m3,G.app (.cons t .nil .nil),Y,xs++iT t none (Fo.nil).len 0,Z,oc2)) (show L.length-(i+1)<L.length-i by omega) ⟨show i+1≤_ by omega,show m3≤m by omega,Q,by rw[Fo.app_one];exact U⟩ ((by have e:(G.app (.cons t .nil .nil)).len=G.len+1:=(Fo.len_app1 _ _);dsimp only;rw[e];exact A2 lE C)) (λw f D=>⟨_,(by have e:(G.app (.cons t .nil .nil)).len=G.len+1:=(Fo.len_app1 _ _);dsimp only;rw[e];exact (D.more (B':=[]) (F':=[λw f=>HW w f (G.app (.cons t .nil .nil)) (xs++iT t none (Fo.nil).len 0)]) nE (AA.mem ⟨HW.app (HW.one (Cv.nil _ _ _ _)) D.f1,tQ⟩) (Ap.mem ⟨HW.mono,tQ⟩)).less (List.nil_sublist _) sR nE (mR [1,0]))⟩)));refine Aa 5 (λ_=>?_);obtain⟨hd2,m3,W,l1,Y,rfl,hs1,Q,rfl⟩:=PJ F (by rw[bne_eq_false_iff_eq.1 h3];rfl);have hyl:(Fo.cons t W Y).len=Y.len+1:=rfl;refine Aa 5 (λ_=>A6 63 C C (λh4=>?_) (λh4=>?_));exact absurd (eq_of_beq h4) (by first|omega|decide)
 refine Aa 8 (aI ⟨oM,oM⟩<|λ_=>JK (XX:=λ_ _=>False) C C (eC gH C C) (λw f D=>(ih m3 oM w f D.vl rb L (some ⟨tb,tq,none⟩) lc (i+1) (d+1) W l1 true hL oM oM hs1 D.res (D.mi rb C).2.1 D.f0).retP) (λ_=>IW.stab) (λ_=>⟨Cv.mono,tQ⟩) (λ_ _ _ _ _ h=>h.elim) ?_);rintro⟨i2,ka,kc⟩ ⟨hi2,hl1⟩;dsimp only at hi2 hl1 ⊢;have hgt:=mQ hs1 oM hi2 hl1;rw[hl1] at Q;exact Aa 13 (λ_=>Cz C C (λw f D=>Ai C fB D.res C)<|Af 21 [0] (y<|λb2=>λ_=>BW 0 0 C C pX C C C C C C C C (λ_ _=>C) oM oM λZ oc2=>Aa 3 (λ_=>C0 ((i2,m3,G.app (.cons t W .nil),Y,xs++iT t ka W.len kc,Z,oc2)) (show L.length-(i2)<L.length-i by omega) ⟨show i2≤_ by omega,show m3≤m by omega,Q,by rw[Fo.app_one];exact U⟩ ((by have e:(G.app (.cons t W .nil)).len=G.len+1:=(Fo.len_app1 _ _);dsimp only;rw[e];exact A2 lE C)) (λw f D=>⟨_,(by have e:(G.app (.cons t W .nil)).len=G.len+1:=(Fo.len_app1 _ _);dsimp only;rw[e];exact (D.more (B':=[]) (F':=[λw f=>HW w f (G.app (.cons t W .nil)) (xs++iT t ka W.len kc)]) nE (AA.mem ⟨HW.app (HW.one (D.f0)) D.f2,tQ⟩) (Ap.mem ⟨HW.mono,tQ⟩)).less (List.nil_sublist _) sR nE (mR [2,0]))⟩))));refine AN 6 (λ_=>Bp<|Aa 4 (λ_=>Dl<|Aa 3 (λ_=>?_)));obtain rfl:i=L.length:=by have:=dF h1;omega
 rw[List.drop_length] at F;obtain⟨rfl,rfl,rfl⟩:=TZ F;refine Aa 7 (λ_=>?_);rw[Fo.app_nil1] at U;subst U;exact AK (λw f D=>B5 C (Ak C) (Ak C)) (λw f D=>let ⟨f2,J,hF⟩:=ZB D D.f1;⟨(L.length,oa,oc),f2,C,⟨Nat.le_refl _,List.drop_length.symm⟩,J.exm,J.res,⟨hF,tQ⟩⟩)
theorem RF:∀m,zK prog 12 48 m:=λm=>Nat.strongRecOn m λm h w f D rb L F lc i d x G b J hd K O Q U W=>QQ m h w f D rb L F lc i d x G b J hd K O Q U W
theorem Ww(m:Nat)(hex:ExF prog 112 56 m)(w:wO)(f:Fq)(hv:Vl w f)(G:Nat)(O:AE w G [.bool false,iV 0,iV 0] 56)(l:Fo)(J:oA)(lc:Nat)(z0:Nd)(hl:l.len≤100000)(Q:Je m l=some z0)(hT:Cv w f l J lc) :
  AO prog 60 #[pB G,.slice J l.len lc] w (AF (α:=oA×Nat) (λy=>.slice y.1 z0.len y.2) (λ_=>True) (λy=>[λw f=>AJ w f z0 y.1 y.2]) w f):=by
 have K:=AE.lt O;refine Dq [λw f=>Cv w f l J lc] func60 C C C (AR hv ⟨hT,tQ⟩ ⟨Cv.mono,tQ⟩)<|Aa 17 (λ_=>KR 58 6 ?_);refine D6 (α:=Nat×Fo×Nd×Nd×lV×oA×Nat) (λx=>x.2.1.len) (λx=>x.1+x.2.1.len=l.len∧x.2.2.1.len=x.1∧Je m x.2.1=some x.2.2.2.1∧z0=x.2.2.1.app x.2.2.2.1) (λx=>(E4 0 (pB G) 1 (.slice J l.len lc) 5 (.slice x.2.2.2.2.2.1 x.1 x.2.2.2.2.2.2) 6 (iV (x.1:Int)))) (λx=>X0 w f) (λx=>[]) (λx=>[⟨58,6,x.2.2.2.2.2.1,x.2.2.2.2.2.2,x.1,x.2.2.2.2.1⟩]) (λx=>[]) (λx=>[λw f=>Dj w f J x.1 x.2.1,λw f=>BJ w f x.2.2.1 x.2.2.2.2.1]) ((0,l,.nil,z0,[],none,0)) ⟨Nat.zero_add _,C,Q,C⟩ lE (λw f D=>D.more (B':=[]) (F':=[λw f=>Dj w f J 0 l,λw f=>BJ w f .nil []]) nE (AA.mem ⟨Cv.at D.f0,C,tQ⟩) (Ap.mem ⟨Dj.mono,BJ.mono,tQ⟩) |>.less sR sR nE (mR [0,1])) ?_;rintro⟨i,r,U,z,xs,oa,oc⟩ ⟨hi,F,hz,L⟩;dsimp only at hi F hz L ⊢;refine Aa 8 (λ_=>A6 11 C C (λW=>?_) (λW=>?_));refine Aa 3 (λ_=>Cz C C (λw f D=>Ai C fB ((D.stp.block G K (λh=>h)).trans O) C)<|Aa 9 (λ_=>?_));have hil:i<l.len:=by have:=dT W;omega
 obtain⟨t,k,r,rfl⟩:=Fo.cases1 r oM;have hi2:i+(r.len+1)=l.len:=hi;obtain⟨d,zn,hy,Y,rfl⟩:=VL hz;refine KO 0 C ?_;rintro⟨eb,eo,ka,kc⟩ rfl;refine Af 7 [100,0] (aI oM<|y2<|λ_=>BV C C (eC oJ C C) (λw f D=>hex w f D.vl G ((D.stp.block G K (λh=>h)).trans O) t k ka kc d hy D.f0) (λx=>⟨AJ.mono,tQ⟩) ?_);rintro⟨ya,yc⟩ -;exact Aa 1 (λb1=>λ_=>BW 0 0 C C rP C C C C C C C C (λ_ _=>C) oM oM λZ oc2=>Aa 9 (aI ⟨oM,oM⟩<|λ_=>C0 ((i+1,r,U.app d.one,zn,xs++Kd d.op d.ln d.co d.tx d.nm ya d.kids.len yc,Z,oc2)) (show r.len<r.len+1 from Nat.lt_succ_self _) ⟨show i+1+r.len=_ by omega,by show (U.app d.one).len=i+1;rw[Nd.app_len,F];rfl,Y,by rw[Nd.app_one];exact L⟩ lE (λw f D=>⟨_,(D.more (B':=[]) (F':=[λw f=>BJ w f (U.app d.one) (xs++Kd d.op d.ln d.co d.tx d.nm ya d.kids.len yc)]) nE (AA.mem ⟨BJ.app (BJ.one D.f0) D.f4,tQ⟩) (Ap.mem ⟨BJ.mono,tQ⟩)).less (List.nil_sublist _) sR nE (mR [3,0])⟩)));refine Aa 11 (λ_=>Dl<|Aa 9 (λ_=>?_));obtain rfl:r=.nil:=Fo.len0 (by have:=dF W;omega)
 cases hz
 rw[Nd.app_nil'] at L;subst L;subst F;exact AK (Cy C C) (λw f D=>let ⟨f2,hM2,hF⟩:=K9 D D.f1;⟨(oa,oc),f2,C,tQ,hM2.exm,⟨hF,tQ⟩⟩)
theorem SC(m:Nat)(hex:ExF prog 112 56 m):YY prog 60 56 m:=λw f d h D l a c x F G J=>Ww m hex w f d h D l a c x F G J
theorem ZV(w:wO)(f:Fq)(h:Vl w f)(d:Nat)(D:AE w d [.bool false,iV 0,iV 0] 56)(ln co nm:Int)(tx:lU)(F:oA)(n lc:Nat) :
  AO prog 112 #[pB d,.agg #[iV 2,iV ln,iV co,iV nm,S tx,.slice F n lc]] w (AF (α:=Unit) (λ_=>.agg #[iV 1,iV ln,iV co,S tx,iV nm,.slice none 0 0]) (λ_=>True) (λ_=>[]) w f):=by
 have G:=AE.lt D;exact Dq [] func112 C C C (AR h tQ tQ)<|Af 59 [1,1,0,2,0,2,0,0,1] (λb1=>λb2=>y<|y<|λb3=>y<|y<|y<|y<|y<|y<|y<|λ_=>VS (λw f J=>A3 C (Ac C N5 J.k1 C)) C)
theorem Z1(w:wO)(f:Fq)(J:Vl w f)(F:Nat)(K:AE w F [.bool false,iV 0,iV 0] 56)(ln co nm:Int)(c0:UInt8)(h:lU)(L:Kl.contains (c0::h)=false)(d:Eu c0=true)(G:oA)(n lc:Nat) :
  AO prog 112 #[pB F,.agg #[iV 5,iV ln,iV co,iV nm,S (c0::h),.slice G n lc]] w (AF (α:=Unit) (λ_=>.agg #[iV 5,iV ln,iV co,S (c0::h),iV 0,.slice none 0 0]) (λ_=>True) (λ_=>[]) w f):=by
 have O:=AE.lt K;exact Dq [] func112 C C C (AR J tQ tQ)<|Af 66 [1,1,0,2,0,2] (λb1=>λb2=>y<|y<|λb3=>y<|y<|y<|y<|λ_=>B3 C C (eC Wb C C) (λw f D=>Jt w f D.vl ln co nm c0 h L d G n lc)<|Af 15 [0,1] (y<|y<|λ_=>VS (λw f D=>A3 C (Ac C N5 D.k1 C)) C))
theorem bO(m:Nat)(J:YY prog 60 56 m)(w:wO)(f:Fq)(hv:Vl w f)(G:Nat)(Z:AE w G [.bool false,iV 0,iV 0] 56)(ln co nm:Int)(tx:lU)(gl gc K:Int)(L:Fo)(a:AB)(F:Fo)(b:AB)(bk:Fo)(O:oA)(lc:Nat)(Q U:N)(hy:FJ m a F=some Q)(hz:FJ m b bk=some U)(hT:Cv w f (.cons ⟨5,gl,gc,K,Zj⟩ L (.cons a F (.cons b bk .nil))) O lc) :
  AO prog 112 #[pB G,.agg #[iV 0,iV ln,iV co,iV nm,S tx,.slice O 3 lc]] w (AF (α:=oA×Nat) (λx=>.agg #[iV 13,iV ln,iV co,S tx,iV 0,.slice x.1 2 x.2]) (λ_=>True) (λx=>[λw f=>AJ w f (Q.cons U.one) x.1 x.2]) w f):=by
 have W:=AE.lt Z;refine Dq [λw f=>Cv w f (.cons ⟨5,gl,gc,K,Zj⟩ L (.cons a F (.cons b bk .nil))) O lc] func112 C C C (AR hv ⟨hT,tQ⟩ ⟨Cv.mono,tQ⟩)<|Af 68 [1,1,0,2] (λb1=>λb2=>y<|y<|λb3=>y<|y<|λ_=>?_);have Y:=hT.1;have hc4:3≤lc:=Y;refine Ng 0 C<|KO 0 C ?_;rintro⟨eb,eo,k0a,k0c⟩ rfl;refine Qc 1 C ?_;rintro⟨k1a,k1c⟩;refine Qc 1 C ?_;rintro⟨k2a,k2c⟩;refine Af 14 [2,2] (y<|y<|λ_=>Cz C C (λw f d=>HF (m:=2) C C ND oM)<|Af 13 [2] (y<|λ_=>B3 C C (eC Rg C C) (λw f d=>Gq w f d.vl ln co nm tx gl gc K Zj L (.cons a F (.cons b bk .nil)) 2 (some ⟨eb,eo,none⟩) lc C dC d.f7)<|Af 22 [2,102,0] (y<|aI oM<|y2<|λ_=>B3 C C (eC Rd C C) (λw f d=>Kw w f d.vl Zj)<|Aa 3 (λ_=>A6 96 C C (λD=>?_) (λD=>?_)))));replace D:=Ee D;exact absurd D dC;replace D:=Eh D;refine Af 75 [0] (y<|λ_=>BV C C (eC Rr C C) (λw f d=>J w f d.vl G ((d.stp.block G W (λh=>h)).trans Z) (.cons a F (.cons b bk .nil)) (some ⟨eb,eo+1*6,none⟩) (lc-1) (Q.cons U.one) (show (2:Nat)≤100000 by decide) (Ql hy hz) (Dj.toF d.f5 (by show 2≤lc-1;omega))) (λx=>⟨AJ.mono,tQ⟩) ?_);rintro⟨ya,yc⟩ -;exact Af 12 [0,0,1] (y<|y<|y<|λ_=>AK (λw f d=>A3 C (Ac C N5 d.k1 C)) (λw f d=>⟨(ya,yc),f,C,tQ,d.exm,⟨d.f0,tQ⟩⟩))
theorem Zx(m:Nat)(U:YY prog 60 56 m)(w:wO)(f:Fq)(hv:Vl w f)(K:Nat)(hP:AE w K [.bool false,iV 0,iV 0] 56)(ln co nm:Int)(tx:lU)(gl gc W:Int)(Y:Fo)(L ac O:Int)(a0:UInt8)(F:lU)(Z:Kl.contains (a0::F)=false)(D:Eu a0=true)(Q:Fo)(b:AB)(bk:Fo)(c:AB)(J:Fo)(la:oA)(lc:Nat)(yn zn:N)(hy:FJ m b bk=some yn)(hz:FJ m c J=some zn)(hT:Cv w f (.cons ⟨5,gl,gc,W,YH⟩ Y (.cons ⟨5,L,ac,O,a0::F⟩ Q (.cons b bk (.cons c J .nil)))) la lc) :
  AO prog 112 #[pB K,.agg #[iV 0,iV ln,iV co,iV nm,S tx,.slice la 4 lc]] w (AF (α:=oA×Nat) (λx=>.agg #[iV 9,iV ln,iV co,S (a0::F),iV 0,.slice x.1 2 x.2]) (λ_=>True) (λx=>[λw f=>AJ w f (yn.cons zn.one) x.1 x.2]) w f):=by
 have hlp:=AE.lt hP;refine Dq [λw f=>Cv w f (.cons ⟨5,gl,gc,W,YH⟩ Y (.cons ⟨5,L,ac,O,a0::F⟩ Q (.cons b bk (.cons c J .nil)))) la lc] func112 C C C (AR hv ⟨hT,tQ⟩ ⟨Cv.mono,tQ⟩)<|Af 68 [1,1,0,2] (λb1=>λb2=>y<|y<|λb3=>y<|y<|λ_=>?_);have hc3:=hT.1;have hc4:4≤lc:=hc3;refine Ng 0 C<|KO 0 C ?_;rintro⟨eb,eo,k0a,k0c⟩ rfl;refine Qc 1 C ?_;rintro⟨k1a,k1c⟩;refine Qc 1 C ?_;rintro⟨k2a,k2c⟩;refine Qc 1 C ?_;rintro⟨k3a,k3c⟩;refine Af 14 [2,2] (y<|y<|λ_=>Cz C C (λw f d=>HF (m:=3) C C ND oM)<|Af 13 [2] (y<|λ_=>B3 C C (eC Rg C C) (λw f d=>Gq w f d.vl ln co nm tx gl gc W YH Y (.cons ⟨5,L,ac,O,a0::F⟩ Q (.cons b bk (.cons c J .nil))) 3 (some ⟨eb,eo,none⟩) lc C dC d.f9)<|Af 22 [2,103,0] (y<|aI oM<|y2<|λ_=>B3 C C (eC Rd C C) (λw f d=>Kw w f d.vl YH)<|Aa 3 (λ_=>A6 96 C C (λG=>?_) (λG=>?_)))));replace G:=Ee G;exact absurd G dC;replace G:=Eh G;refine Af 33 [102,0] (aI oM<|y2<|λ_=>B3 C C (eC oZ C C) (λw f d=>U7 w f d.vl L ac O a0 F Z D k1a Q.len k1c)<|Af 27 [0,102,4,0] (y<|aI oM<|y2<|y<|λ_=>Cz C C (λw f d=>HF (m:=2) C C ND oM)<|BV C C (eC Rr C C) (λw f d=>U w f d.vl K ((d.stp.block K hlp (λh=>h)).trans hP) (.cons b bk (.cons c J .nil)) (some ⟨eb,eo+2*6,none⟩) (lc-1-1) (yn.cons zn.one) (show (2:Nat)≤100000 by decide) (Ql hy hz) (Dj.toF d.f5 (by show 2≤lc-1-1;omega))) (λx=>⟨AJ.mono,tQ⟩) ?_));rintro⟨ya,yc⟩ -;exact Af 12 [0,0,1] (y<|y<|y<|λ_=>AK (λw f d=>A3 C (Ac C N5 d.k1 C)) (λw f d=>⟨(ya,yc),f,C,tQ,d.exm,⟨d.f0,tQ⟩⟩))
theorem SQ(m:Nat)(F:YY prog 60 56 m):ExF prog 112 56 (m+1):=λw f J K L t k a c x hx hT=>by
 obtain⟨m2,hm,h⟩:=Wn hx
 cases hm
 rcases h with ⟨d,rfl⟩|⟨d,D,rfl⟩|⟨d,g,O,u,Q,v,U,y,z,rfl,D,G,W,Y,rfl⟩|⟨d,g,O,u,Q,v,U,s,sk,y,z,rfl,D,G,W,Y,h6,rfl⟩
 ·
  obtain⟨tk,ln,co,nm,tx⟩:=t;simp only at d;subst d;exact (ZV w f J K L ln co nm tx a k.len c).mono λv w2 ⟨_,f2,Z,q2,q3,_⟩=>⟨(none,0),f2,Z,q2,q3,⟨⟨Nat.zero_le _,.inl C⟩,tQ⟩⟩
 ·
  obtain⟨ln,co,nm,c0,s0,rfl,hk,hl⟩:=QP D;exact (Z1 w f J K L ln co nm c0 s0 hk hl a k.len c).mono λv w2 ⟨_,f2,Z,q2,q3,_⟩=>⟨(none,0),f2,Z,q2,q3,⟨⟨Nat.zero_le _,.inl C⟩,tQ⟩⟩
 ·
  obtain⟨tk,ln,co,nm,tx⟩:=t;obtain⟨gk2,gl,gc,gn,gx⟩:=g;simp only at d D G;subst d;subst D;subst G;exact bO m F w f J K L ln co nm tx gl gc gn O u Q v U a c y z W Y hT
 ·
  obtain⟨tk,ln,co,nm,tx⟩:=t;obtain⟨gk2,gl,gc,gn,gx⟩:=g;simp only at d D G;subst d;subst D;subst G;obtain⟨al,ac,an,a0,ar,rfl,hk,hl⟩:=QP W;exact Zx m F w f J K L ln co nm tx gl gc gn O al ac an a0 ar hk hl Q v U s sk a c y z Y h6 hT
theorem ME:∀m,ExF prog 112 56 m
 |0=>λ_ _ _ _ _ _ _ _ _ _ h=>by cases h
 |m+1=>SQ m (SC m (ME m))
theorem gJ(m:Nat)(O:YY prog 60 56 m)(w:wO)(f:Fq)(hv:Vl w f)(G:Nat)(hP:AE w G [.bool false,iV 0,iV 0] 56)(ln co nm:Int)(tx:lU)(gl gc Q:Int)(U:Fo)(J ac K:Int)(a0:UInt8)(F:lU)(W:Kl.contains (a0::F)=false)(D:Eu a0=true)(L:Fo)(b:AB)(bk:Fo)(Y:oA)(lc:Nat)(Z:N)(hy:FJ m b bk=some Z)(hT:Cv w f (.cons ⟨5,gl,gc,Q,fK⟩ U (.cons ⟨5,J,ac,K,a0::F⟩ L (.cons b bk .nil))) Y lc) :
  AO prog 14 #[pB G,.agg #[iV 0,iV ln,iV co,iV nm,S tx,.slice Y 3 lc]] w (AF (α:=oA×Nat) (λx=>.agg #[iV 44,iV ln,iV co,S (a0::F),iV 0,.slice x.1 1 x.2]) (λ_=>True) (λx=>[λw f=>AJ w f Z.one x.1 x.2]) w f):=by
 have hlp:=AE.lt hP;refine Dq [λw f=>Cv w f (.cons ⟨5,gl,gc,Q,fK⟩ U (.cons ⟨5,J,ac,K,a0::F⟩ L (.cons b bk .nil))) Y lc] func14 C C C (AR hv ⟨hT,tQ⟩ ⟨Cv.mono,tQ⟩)<|Af 17 [1,0] (λb1=>λb2=>y<|λb3=>y<|λ_=>?_);have hc3:=hT.1;have hc4:3≤lc:=hc3;refine Ng 0 C<|KO 0 C ?_;rintro⟨eb,eo,k0a,k0c⟩ rfl;refine Qc 1 C ?_;rintro⟨k1a,k1c⟩;refine Qc 1 C ?_;rintro⟨k2a,k2c⟩;refine Af 2 [2] (y<|λ_=>B3 C C (eC Rg C C) (λw f d=>Gq w f d.vl ln co nm tx gl gc Q fK U (.cons ⟨5,J,ac,K,a0::F⟩ L (.cons b bk .nil)) 2 (some ⟨eb,eo,none⟩) lc C dC d.f7)<|Af 17 [2] (y<|λ_=>Cz C C (λw f d=>HF (m:=2) C C ND oM)<|Af 47 [101,0] (aI oM<|y2<|λ_=>B3 C C (eC Wb C C) (λw f d=>Jt w f d.vl J ac K a0 F W D k1a L.len k1c)<|Af 27 [0,101,4,0] (y<|aI oM<|y2<|y<|λ_=>Cz C C (λw f d=>HF (m:=1) C C ND oM)<|BV C C (eC Rr C C) (λw f d=>O w f d.vl G ((d.stp.block G hlp (λh=>h)).trans hP) (.cons b bk .nil) (some ⟨eb,eo+2*6,none⟩) (lc-1-1) Z.one (show (1:Nat)≤100000 by decide) (LL hy) (Dj.toF d.f3 (by show 1≤lc-1-1;omega))) (λx=>⟨AJ.mono,tQ⟩) ?_))));rintro⟨ya,yc⟩ -;exact Af 12 [0,0,1] (y<|y<|y<|λ_=>AK (λw f d=>A3 C (Ac C N5 d.k1 C)) (λw f d=>⟨(ya,yc),f,C,tQ,d.exm,⟨d.f0,tQ⟩⟩))
theorem nD(m:Nat)(G:YY prog 60 56 m)(w:wO)(f:Fq)(hv:Vl w f)(F:Nat)(W:AE w F [.bool false,iV 0,iV 0] 56)(ln co nm:Int)(tx:lU)(gl gc J:Int)(K:Fo)(a:AB)(D:Fo)(L:oA)(lc:Nat)(O:N)(hy:FJ m a D=some O)(Y:Cv w f (.cons ⟨5,gl,gc,J,rDo⟩ K (.cons a D .nil)) L lc) :
  AO prog 14 #[pB F,.agg #[iV 0,iV ln,iV co,iV nm,S tx,.slice L 2 lc]] w (AF (α:=oA×Nat) (λx=>.agg #[iV 46,iV ln,iV co,S [],iV 0,.slice x.1 1 x.2]) (λ_=>True) (λx=>[λw f=>AJ w f O.one x.1 x.2]) w f):=by
 have Q:=AE.lt W;refine Dq [λw f=>Cv w f (.cons ⟨5,gl,gc,J,rDo⟩ K (.cons a D .nil)) L lc] func14 C C C (AR hv ⟨Y,tQ⟩ ⟨Cv.mono,tQ⟩)<|Af 17 [1,0] (λb1=>λb2=>y<|λb3=>y<|λ_=>?_);have U:=Y.1;have hc4:2≤lc:=U;refine Ng 0 C<|KO 0 C ?_;rintro⟨Z,eo,k0a,k0c⟩ rfl;refine Qc 1 C ?_;rintro⟨k1a,k1c⟩;refine Af 2 [2] (y<|λ_=>B3 C C (eC Rg C C) (λw f d=>Gq w f d.vl ln co nm tx gl gc J rDo K (.cons a D .nil) 1 (some ⟨Z,eo,none⟩) lc C dC d.f5)<|Af 17 [2] (y<|λ_=>Cz C C (λw f d=>HF (m:=1) C C ND oM)<|Af 71 [0] (y<|λ_=>BV C C (eC Rr C C) (λw f d=>G w f d.vl F ((d.stp.block F Q (λh=>h)).trans W) (.cons a D .nil) (some ⟨Z,eo+1*6,none⟩) (lc-1) O.one (show (1:Nat)≤100000 by decide) (LL hy) (Dj.toF d.f3 (by show 1≤lc-1;omega))) (λx=>⟨AJ.mono,tQ⟩) ?_)));rintro⟨ya,yc⟩ -;exact Af 12 [0,0,1] (y<|y<|y<|λ_=>AK (λw f d=>A3 C (Ac C N5 d.k1 C)) (λw f d=>⟨(ya,yc),f,C,tQ,d.exm,⟨d.f0,tQ⟩⟩))
theorem YD(m:Nat):TopF prog 14 56 m:=λw f Q U W t k a c x hx Y=>by
 obtain⟨Z,h⟩:=VJ hx;have d:=SC m (ME m);obtain⟨tk,ln,co,nm,tx⟩:=t;simp only at Z;subst Z;rcases h with ⟨g,G,u,J,v,vk,y,rfl,D,F,K,h5,rfl⟩|⟨g,G,u,J,y,rfl,D,F,K,rfl⟩
 ·
  obtain⟨L,gl,gc,O,gx⟩:=g;simp only at D F;subst D;subst F;obtain⟨al,ac,an,a0,ar,rfl,hk,hl⟩:=QP K;exact gJ m d w f Q U W ln co nm tx gl gc O G al ac an a0 ar hk hl J v vk a c y h5 Y
 ·
  obtain⟨L,gl,gc,O,gx⟩:=g;simp only at D F;subst D;subst F;exact nD m d w f Q U W ln co nm tx gl gc O G u J a c y K Y
theorem ML(w:wO)(f:Fq)(hv:Vl w f)(src:lU)(L:List AB)(F:Fo)(z0:Nd)(U:src.length≤60000)(J:Ci src.length 0 src=some L)(K:DB (L.length+1) 0 L=some (F,[],false))(W:IC 0 L=0)(Y:M9 100 F=some z0) :
  AO prog 6 #[S src] w (AF (α:=oA×Nat) (λx=>.tuple #[.slice x.1 z0.len x.2,.agg #[iV 0,iV 0],iV 0]) (λ_=>True) (λx=>[λw f=>AJ w f z0 x.1 x.2]) w f):=by
 have hL:L.length≤100000:=Nat.le_trans (HP _ _ _ _ J) oM;have hfl:F.len≤L.length:=SF (i:=0) K;refine Dq [] func6 C C C (AR hv tQ tQ)<|Aa 10 (λb1=>λ_=>BV C C (eC wC C C) (λw f d=>Vv w f d.vl src L src.length U J) (λx=>⟨IJ.mono,tQ⟩) ?_);rintro⟨O,lc⟩ -;refine Af 29 [0] (λb2=>y<|λb3=>λ_=>vL 0 C C<|mmi (λb=>b=b3) (IW 48 b3 O L.length lc 0) (λb h=>.inr h) (λw f h=>h.2) IW.stab<|Aa 2 (λ_=>JK (XX:=λ_ _=>False) C C (eC gH C C) (λw f d=>(RF (L.length+1) w f d.vl b3 L O lc 0 0 F [] false hL (Nat.zero_le _) (Nat.zero_le _) K d.res (d.mi b3 C).2.1 d.f0).retP) (λ_=>IW.stab) (λ_=>⟨Cv.mono,tQ⟩) (λ_ _ _ _ _ h=>h.elim) ?_));rintro⟨i9,oa,oc⟩ -;refine Aa 13 (λ_=>Cz C C (λw f d=>Ai C fB d.res C)<|Aa 9 (λ_=>B3 C C (eC wW C C) (λw f d=>V7 w f d.vl L O lc hL W d.f1)<|Af 35 [0] (λb4=>y<|λb5=>λ_=>KR 58 6 ?_)));refine D6 (α:=Nat×Fo×Nd×Nd×lV×oA×Nat) (λx=>x.2.1.len) (λx=>x.1+x.2.1.len=F.len∧x.2.2.1.len=x.1∧M9 100 x.2.1=some x.2.2.2.1∧z0=x.2.2.1.app x.2.2.2.1) (λx=>(E5 3 (pB b1) 9 (.slice oa F.len oc) 13 (pB b5) 14 (.slice x.2.2.2.2.2.1 x.1 x.2.2.2.2.2.2) 15 (iV (x.1:Int)))) (λx=>⟨λ_=>False,λb=>b=b3,IW 48 b3 O L.length lc i9,w,f⟩) (λx=>[⟨b5,[.bool false,iV 0,iV 0],56,true⟩,⟨b1,[iV 0,iV 0],27,true⟩]) (λx=>[⟨58,6,x.2.2.2.2.2.1,x.2.2.2.2.2.2,x.1,x.2.2.2.2.1⟩]) (λx=>[]) (λx=>[λw f=>Dj w f oa x.1 x.2.1,λw f=>BJ w f x.2.2.1 x.2.2.2.2.1]) ((0,F,.nil,z0,[],none,0)) ⟨Nat.zero_add _,C,Y,C⟩ lE (λw f d=>d.more (B':=[]) (F':=[λw f=>Dj w f oa 0 F,λw f=>BJ w f .nil []]) nE (AA.mem ⟨Cv.at d.f0,C,tQ⟩) (Ap.mem ⟨Dj.mono,BJ.mono,tQ⟩) |>.less (sK (sD (sD (sK sZ)))) sR nE (mR [0,1])) ?_;rintro⟨i,r,Z,z,xs,na,nc⟩ ⟨hi,G,hz,Q⟩;dsimp only at hi G hz Q ⊢;refine Aa 8 (λ_=>A6 55 C C (λh1=>?_) (λh1=>?_));refine Af 13 [0] (y<|λ_=>?_);have hil:i<F.len:=by have:=dT h1;omega
 obtain⟨t,k,r,rfl⟩:=Fo.cases1 r oM;have hi2:i+(r.len+1)=F.len:=hi;obtain⟨D,zn,hy,hz2,rfl⟩:=UO hz;refine KO 0 C ?_;rintro⟨eb,eo,ka,kc⟩ rfl;refine Af 7 [100,0] (aI oM<|y2<|λ_=>BV C C (eC wS C C) (λw f d=>YD 100 w f d.vl b5 d.k0 t k ka kc D hy d.f0) (λx=>⟨AJ.mono,tQ⟩) ?_);rintro⟨ya,yc⟩ -;exact Aa 1 (λb6=>λ_=>BW 0 0 C C rP C C C C C C C C (λ_ _=>C) oM oM λoa2 oc2=>Aa 9 (aI ⟨oM,oM⟩<|λ_=>C0 ((i+1,r,Z.app D.one,zn,xs++Kd D.op D.ln D.co D.tx D.nm ya D.kids.len yc,oa2,oc2)) (show r.len<r.len+1 from Nat.lt_succ_self _) ⟨show i+1+r.len=_ by omega,by show (Z.app D.one).len=i+1;rw[Nd.app_len,G];rfl,hz2,by rw[Nd.app_one];exact Q⟩ lE (λw f d=>⟨_,(d.more (B':=[]) (F':=[λw f=>BJ w f (Z.app D.one) (xs++Kd D.op D.ln D.co D.tx D.nm ya D.kids.len yc)]) nE (AA.mem ⟨BJ.app (BJ.one d.f0) d.f4,tQ⟩) (Ap.mem ⟨BJ.mono,tQ⟩)).less (sD (sK (sK sZ))) sR nE (mR [3,0])⟩)));refine Aa 11 (λ_=>Dl<|Af 24 [0,1] (y<|y<|λ_=>?_));obtain rfl:r=.nil:=Fo.len0 (by have:=dF h1;omega)
 cases hz
 rw[Nd.app_nil'] at Q;subst Q;subst G;exact AK (λw f d=>Ez C (Ak C) (Ac C FH d.k1 C) (Ak C)) (λw f d=>let ⟨f2,hM2,hF⟩:=K9 d d.f1;⟨(na,nc),f2,C,tQ,hM2.exm,⟨hF,tQ⟩⟩)
theorem IB(w:wO)(f:Fq)(h:Vl w f)(src:lU)(x:Nd)(d:src.length≤60000)(D:P5 src=some x):AO prog 6 #[S src] w (AF (α:=oA×Nat) (λy=>.tuple #[.slice y.1 x.len y.2,.agg #[iV 0,iV 0],iV 0]) (λ_=>True) (λy=>[λw f=>AJ w f x y.1 y.2]) w f):=by
 obtain⟨l,F,G,J,K,L⟩:=SG D;exact ML w f h src l F x d G J K L
theorem DT(w:wO)(f:Fq)(D:Vl w f)(j:Nat)(F:j≤14) :
   AO prog 4 #[iV (j:Int)] w (AF (α:=Unit) (λ_=>S (WY j)) (λ_=>True) (λ_=>[]) w f):=by
 refine Dq [] func4 C C C (AR D tQ tQ)<|Aa 12 (λ_=>A6 4 C C (λh=>?_) (λh=>?_));refine Aa 8 (λ_=>?_);obtain rfl:j=0:=by have:=eq_of_beq h;omega
 exact AK (Cy C C) (λw f d=>⟨(),f,C,tQ,d.exm,tQ⟩);refine Aa 4 (λ_=>?_);obtain⟨q,rfl⟩:∃q,j=q+1:=⟨j-1,by have:=ne_of_beq_false h;omega⟩;exact Aa 4 (aI ⟨oM,oM⟩<|aI ⟨oM,oM⟩<|λ_=>Cz C C (λw f d=>Cg (m:=((UInt8.ofNat (97+q)).toNat:Int)) C iH (by rw[show (97+((q+1:Nat):Int)-1)=((97+q:Nat):Int) by omega];exact VQ (97+q)))<|Aa 1 (λb1=>λ_=>iP 0 1 1 C C C dC<|Cz C C (λw f d=>Ij (l:=[UInt8.ofNat (97+q)]) C GB (d.row _ (.head _)))<|Aa 5 (aI (by simp)<|λ_=>AK (Cy C C) (λw f d=>⟨(),f,C,tQ,d.exm,tQ⟩))))
theorem eN(w:wO)(f:Fq)(hv:Vl w f)(hJ:Da w f)(hG:EY w f)(n:Int) :
   AO prog 3 #[iV n] w (AF (α:=Unit) (λ_=>.bool true) (λ_=>True) (λ_=>[]) w f):=by
 refine Dq [λw f=>Da w f,λw f=>EY w f] func3 C C C (AR hv ⟨hJ,hG,tQ⟩ ⟨Da.mono,EY.mono,tQ⟩)<|Aa 6 (λ_=>?_);obtain⟨k,hkl,hk⟩:=rem_m n 14 dC;refine Aa 2 (λ_=>Cz C C (λw f d=>Cg (m:=_) C kZ (rfl))<|Cz C C (λw f d=>kM (k:Int) C C dC hk)<|Cz C C (λw f d=>Cg (m:=(k:Int)) C WH (Hv ⟨oM,oM⟩))<|Aa 17 (aI ⟨oM,oM⟩<|λ_=>?_));refine D6 (α:=Nat) (λi=>(1+k)-i) (λi=>i≤(1+k)) (λi=>(E4 0 (iV (1+(k:Int))) 3 (S (gF i)) 4 (S (iN i)) 5 (iV (i:Int)))) (λi=>X0 w f) (λi=>[]) (λi=>[]) (λi=>[]) (λi=>[λw f=>Da w f,λw f=>EY w f]) (0) (Nat.zero_le _) lE (λw f d=>d) ?_;rintro i hi;refine Aa 8 (λ_=>?_)
 · refine A6 22 C C (λO=>?_) (λO=>?_)
   refine Aa 6 (λ_=>?_);have hik:i<1+k:=by have:=dT O;omega
   have Q:=QL i;have U:=QK i;refine Ca [] Aj (rd [0,1,2,3,4,9,13] (.br 5 (.br 6 (.rd 7 (.rd 8 (.br 10 (.rd 11 (.rd 12 (.br 14 (rd [15,16,17] .fin) .fin))) .fin))) (.br 10 (.br 6 (rd [7,8,11,12] (.br 14 (rd [15,16,17] .fin) .fin)) (.br 14 (.br 6 (rd [7,8,11,12,15,16,17] .fin) .fin) .fin)) .fin)) (.br 10 (.br 5 (.br 6 (rd [7,8,11,12] (.br 14 (rd [15,16,17] .fin) .fin)) (.br 14 (.br 6 (rd [7,8,11,12,15,16,17] .fin) .fin) .fin)) (.br 14 (.br 5 (.br 6 (rd [7,8,11,12,15,16,17] .fin) .fin) .fin) .fin)) .fin))) C kR<|AN 1 (λ_=>CP C C C (λw h=>aS C C)<|AN 1 (λ_=>CP C C C (λw h=>LV C C ⟨oM,oM⟩)<|CP C C C (λw h=>Cg (m:=((UInt8.ofNat (97+i)).toNat:Int)) C iH (by rw[show (97+(i:Int))=((97+i:Nat):Int) by omega];exact VQ (97+i)))<|AN 2 (λ_=>Bj C ?_ ?_)));refine Aa 2 (λb1=>λ_=>Am [] C<|Bj C ?_ ?_);refine iP 0 1 1 C C C dC<|Cz C C (λw f d=>Ij (l:=[UInt8.ofNat (97+i)]) C GB (d.row _ (.head _)))<|Aa 1 (λ_=>Am [] C<|CP C C C (λw h=>aS C C)<|CP C C C (λw h=>aS C C)<|Ah C<|B3 C C (eC L5 C C) (λw f d=>DT w f d.vl i oM)<|Aa 1 (λ_=>Am [] C ?_));refine CP C C C (λw h=>aS C C)<|CP C C C (λw h=>aS C C)<|Ah C<|B3 C C (eC L5 C C) (λw f d=>DT w f d.vl i oM)<|Aa 1 (λ_=>Am [] C ?_)
   rotate_left
   refine Ah C<|B3 C C (eC L5 C C) (λw f d=>DT w f d.vl i oM)<|Aa 1 (λ_=>Am [] C<|Bj C ?_ ?_);refine iP 0 1 1 C C C dC<|Cz C C (λw f d=>Ij (l:=[UInt8.ofNat (97+i)]) C GB (d.row _ (.head _)))<|Aa 1 (λ_=>Am [] C<|CP C C C (λw h=>aS C C)<|CP C C C (λw h=>aS C C)<|CP C C C (λw h=>aS C C)<|CP C C C (λw h=>aS C C)<|Ah C<|B3 C C (eC L5 C C) (λw f d=>DT w f d.vl i oM) ?_);refine Aa 1 (λ_=>Am [] C ?_)
   rotate_left
   refine Ah C<|B3 C C (eC L5 C C) (λw f d=>DT w f d.vl i oM)<|Aa 1 (λ_=>Am [] C<|Ah C<|iP 0 1 1 C C C dC<|Cz C C (λw f d=>Ij (l:=[UInt8.ofNat (97+i)]) C GB (d.row _ (.head _)))<|Aa 1 (λ_=>Am [] C<|CP C C C (λw h=>aS C C) ?_));refine CP C C C (λw h=>aS C C)<|CP C C C (λw h=>aS C C)<|CP C C C (λw h=>aS C C) ?_
   rotate_left
   refine Ah C<|B3 C C (eC L5 C C) (λw f d=>DT w f d.vl i oM)<|Aa 1 (λ_=>Am [] C<|Bj C ?_ ?_);refine Aa 2 (λb1=>λ_=>Am [] C<|Bj C ?_ ?_);refine iP 0 1 1 C C C dC<|Cz C C (λw f d=>Ij (l:=[UInt8.ofNat (97+i)]) C GB (d.row _ (.head _)))<|Aa 1 (λ_=>Am [] C<|CP C C C (λw h=>aS C C)<|CP C C C (λw h=>aS C C)<|CP C C C (λw h=>aS C C)<|CP C C C (λw h=>aS C C)<|Ah C<|B3 C C (eC L5 C C) (λw f d=>DT w f d.vl i oM) ?_);refine Aa 1 (λ_=>Am [] C ?_)
   rotate_left
   refine Ah C<|B3 C C (eC L5 C C) (λw f d=>DT w f d.vl i oM)<|Aa 1 (λ_=>Am [] C<|Ah C<|iP 0 1 1 C C C dC<|Cz C C (λw f d=>Ij (l:=[UInt8.ofNat (97+i)]) C GB (d.row _ (.head _)))<|Aa 1 (λ_=>Am [] C<|CP C C C (λw h=>aS C C) ?_));refine CP C C C (λw h=>aS C C)<|CP C C C (λw h=>aS C C)<|CP C C C (λw h=>aS C C) ?_
   rotate_left
   refine Ah C<|B3 C C (eC L5 C C) (λw f d=>DT w f d.vl i oM)<|Aa 1 (λ_=>Am [] C<|Ah C<|Aa 2 (λb1=>λ_=>Am [] C<|Ah C<|iP 0 1 1 C C C dC<|Cz C C (λw f d=>Ij (l:=[UInt8.ofNat (97+i)]) C GB (d.row _ (.head _))) ?_));refine Aa 1 (λ_=>Am [] C<|CP C C C (λw h=>aS C C)<|CP C C C (λw h=>aS C C)<|CP C C C (λw h=>aS C C)<|CP C C C (λw h=>aS C C) ?_)
   rotate_left
   refine Aa 3 (λ_=>Dl<|Aa 3 (λ_=>?_));obtain rfl:i=1+k:=by have:=dF O;omega
   have Q:=QL (1+k);have U:=QK (1+k);obtain⟨x,q,r,Z,F,G,hq,hr,D⟩:=big_u (c:=1+k) oM oM
   · rcases D with ⟨W,rfl,l,rfl⟩|⟨W,a,b,rfl,rfl⟩
     refine Aa 5 (aI (by simp only[List.length_append,List.length_cons,List.length_nil];omega)<|aI (by simp only[List.length_append,List.length_cons,List.length_nil];omega)<|λ_=>BV (α:=oA×Nat) (val:=inV (.ok l:RB)) (q:=λ_=>True) (F':=λx=>[λw f=>MB w f (bsR (.ok l:RB)) x.1 x.2]) C C (eC WO C C) (λw f d=>(by have J:=Ix w f d.vl d.f0 d.f1 (Lg (1+k));rw[hr] at J;exact J)) (λ_=>⟨MB.mono,tQ⟩) ?_);rintro⟨ba,bc⟩ -;refine Af 16 [0] (λb1=>y<|aI (by simp only[List.length_append,List.length_cons,List.length_nil];omega)<|aI (by simp only[List.length_append,List.length_cons,List.length_nil];omega)<|λ_=>BV C C (eC qG C C) (λw f d=>IB w f d.vl (Lg (1+k)) x G Z) (λx=>⟨AJ.mono,tQ⟩) ?_);rintro⟨Y,nc⟩ -;refine Af 13 [0] (λb2=>y<|λ_=>BV C C (eC qL C C) (λw f d=>Ks w f d.vl x Y nc _ F hq d.f0) (λx=>trivial) ?_);rintro⟨oa,on,oc⟩ -;refine Af 12 [0] (λb3=>y<|λ_=>B3 C C (eC qX C C) (λw f d=>M4 w f d.vl d.f2 d.f3)<|Af 8 [2,0] (y<|y<|λ_=>Cz C C (λw f d=>NU Uq C C)<|Aa 2 (λ_=>A6 79 C C (λK=>?_) (λK=>?_))));refine Aa 4 (λ_=>A6 83 C C (λL=>?_) (λL=>?_))
     rotate_left
     exact absurd oM (dF L);exact absurd K (by simp[erR,KY]);refine Aa 5 (aI (by simp only[List.length_append,List.length_cons,List.length_nil];omega)<|aI (by simp only[List.length_append,List.length_cons,List.length_nil];omega)<|λ_=>BV (α:=oA×Nat) (val:=inV (.error (a,b,4):RB)) (q:=λ_=>True) (F':=λx=>[λw f=>MB w f (bsR (.error (a,b,4):RB)) x.1 x.2]) C C (eC WO C C) (λw f d=>(by have J:=Ix w f d.vl d.f0 d.f1 (Lg (1+k));rw[hr] at J;exact J)) (λ_=>⟨MB.mono,tQ⟩) ?_);rintro⟨ba,bc⟩ -;refine Af 16 [0] (λb1=>y<|aI (by simp only[List.length_append,List.length_cons,List.length_nil];omega)<|aI (by simp only[List.length_append,List.length_cons,List.length_nil];omega)<|λ_=>BV C C (eC qG C C) (λw f d=>IB w f d.vl (Lg (1+k)) x G Z) (λx=>⟨AJ.mono,tQ⟩) ?_);rintro⟨Y,nc⟩ -;refine Af 13 [0] (λb2=>y<|λ_=>BV C C (eC qL C C) (λw f d=>Ks w f d.vl x Y nc _ F hq d.f0) (λx=>trivial) ?_);rintro⟨oa,on,oc⟩ -;refine Af 12 [0] (λb3=>y<|λ_=>B3 C C (eC qX C C) (λw f d=>M4 w f d.vl d.f2 d.f3)<|Af 8 [2,0] (y<|y<|λ_=>Cz C C (λw f d=>NU Uq C C)<|Aa 2 (λ_=>A6 79 C C (λK=>?_) (λK=>?_))));refine Aa 4 (λ_=>A6 83 C C (λL=>?_) (λL=>?_));exact absurd (dT L) oM
     rotate_left
     exact absurd K (by simp[erR,KY])
     all_goals
       exact Cz C C (λw f d=>cK qun4 C C)<|Aa 13 (λ_=>AK (Cy C C) (λw f d=>⟨(),f,C,tQ,d.exm,tQ⟩))
   all_goals
     exact CP C C C (λw h=>aS C C)<|CP C C C (λw h=>aS C C)<|AN 1 (λ_=>Bp<|Aa 13 (aI (by simp only[List.length_append,List.length_cons,List.length_nil];omega)<|aI ⟨oM,oM⟩<|λ_=>C0 (i+1) (show (1+k)-(i+1)<(1+k)-i by omega) (show i+1≤(1+k) by omega) lE (λw f d=>⟨_,d.less .slnil (List.nil_sublist _) nE (mR [0,1])⟩)))

end Go.Proofs.YtplnpgpagkpnmaaGreatDoor
namespace Go.Proofs.YtplnpgpagkpnmaaGreatDoor.Big
open Go.SW Go.SP Go.RowKit Go.Lib Go.ChangeShapes Go.WideShapes Go.ChangeAt Go.ChangeMaps
set_option maxRecDepth 100000 in
theorem eF(H:Type)(enc:TypeId×Value→H)(W:World)(base:Nat)(args:Array Value)(ds gs:List (DataW H))(before:List MemPlace)
   (hval:∀(j:Nat) t v,Tryz.f3.params[j]?=some t→args[j]?=some v→Value.okWide Tryz.prog W .any base t v)
   (hW:DataW.Whole enc Tryz.prog Tryz.f3.params.toList Rows.inferBigSpec.vars false W args.toList ds gs before) (hL:laidMetH Tryz.prog Rows.inferBigRow.laid W) (hS:W.ShapedOpen Tryz.prog) :
   Calls Tryz.prog 3 args W λe W'=>∃v,e=.returned v∧Rows.inferBigSpec.post enc Tryz.prog Tryz.f3 false true false false W args v W':=by
 have hW':=hW;obtain⟨p,q,hA0,hV,rfl,hfz,hnd⟩:=hW;have hA:DataW.TrodAll enc Tryz.prog W 0 (λ_=>true) true Tryz.f3.params.toList args.toList ds p:=hA0;rw[Tryz.params3] at hA hval;obtain⟨v0,vs0,d0,ds0,p0,q0,hargs0,rfl,rfl,h0,r0⟩:=trodAll_cons hA;obtain⟨rfl,rfl,rfl⟩:=trodAll_nil r0
 obtain rfl:args=#[v0]:=by
   obtain⟨l⟩:=args;exact congrArg Array.mk (hargs0)
 obtain⟨rfl,rfl⟩:=trodVars_none hV;obtain⟨x0,rfl,rfl,rfl,wx0⟩:=open_int Tryz.underlying3 (hval 0 3 v0 C C) h0;clear hA0;simp only[List.append_nil] at hW';refine Calls.mono (gS (eN W (mJ W) (xZ W) (rH hL hS).1 (rH hL hS).2 x0)) ?_;rintro e W' ⟨v,rfl,rfl,hb⟩;exact⟨_,C,_,_,_,[],[],[],hW',trodAll_cons_mk (shut_bool Tryz.underlying4 _) trodAll_mk0,trodAll_cons_mk (shut_int Tryz.underlying3 wx0) trodAll_mk0,C,hb.frame _,λh=>by cases h⟩
noncomputable def lw(os:Os):World:=World.laidAll Tryz.prog os Rows.inferBigRow.laid
theorem fG(os:Os):laidMetH Tryz.prog Rows.inferBigRow.laid ((lw os).forCall (λ_ _=>0) ⟨#[],#[Value.int .i64 0],[]⟩).memory:=by
 rw[MakeChecks.laidMetH_plain _ _ _ (by kernel_rfl)];exact laidMet_laidAll _ kR kR
theorem reads(os:Os){H:Type}(enc:TypeId×Value→H):∃places,DataW.whole enc Tryz.prog ((lw os).forCall (λ_ _=>0) ⟨#[],#[Value.int .i64 0],[]⟩).memory Tryz.f3.params.toList Rows.inferBigSpec.vars false (#[Value.int .i64 0]:Array Value).toList 8=some ([.lit (.int .i64 0)],[],places) :=
 ⟨[],kR⟩
set_option maxRecDepth 100000 in
theorem lifted(os:Os)(started:os.Started)(H:Type)(enc:TypeId×Value→H)(F:Stop.Interp) :
   ReturnsInHanded {} Tryz.checked os 3 .any ((OpenSpec.ofChange Rows.inferBigSpec).preRow enc Tryz.prog Tryz.f3 Rows.inferBigRow.domain false Rows.inferBigRow.laid) (((OpenSpec.ofChange Rows.inferBigSpec).at F).post enc Tryz.prog Tryz.f3 false true false false):=by
 obtain⟨places,hx⟩:=reads os enc
 refine returnsInHanded_of_row (C:=Tryz.checked) (s:=OpenSpec.ofChange Rows.inferBigSpec) own started kR Tryz.func3
   ⟨lw os,λ_ _=>0,⟨#[],#[Value.int .i64 0],[]⟩,World.laidAll_os _ _ _,World.shaped_of_ZipB kR kR,rfl,(Input.okWide_of_okWideB kR).2,
     OpenSpec.preRow_of_cond 8 hx kR (λk hk=>by cases hk) kR (fG os),by simp[Assume.holds]⟩ ?_
 intro W base args ds gs before hval hW _ _ _ hL hS _;exact eF H enc W base args ds gs before hval hW hL hS
abbrev jc:=Rows.inferBigRow
abbrev js:=(OpenSpec.ofChange Rows.inferBigSpec).bare
theorem jT{a b:Bool}(h:a=true)(k:b=true):(a&&b)=true:=by rw[h,k];rfl
theorem jL{a b:Bool}(h:(a&&b)=true):a=true:=((Bool.and_eq_true a b).mp h).1
theorem jR{a b:Bool}(h:(a&&b)=true):b=true:=((Bool.and_eq_true a b).mp h).2
theorem j0:((jc.wf (OpenSpec.ofChange js))&&(laidOutB Tryz.pinned.checked.prog)&&(mapsRowed Tryz.pinned.checked.prog)&&(Tryz.f3.params.all (Tryz.pinned.checked.prog.readableRec ·))&&(namedTie Tryz.pinned.checked.prog jc.named js.vars)&&((jc.stops==[]))&&((Tryz.pinned.checked.prog.stops==[]))&&((jc.knobs==[]))&&((Tryz.pinned.checked.prog.stopKnobs==[])))=true:=kR
theorem j1:(((jc.inPlace==Tryz.pinned.checked.prog.inPlace 3))&&((jc.unfollowed==Tryz.pinned.checked.prog.unfollowed 3))&&((jc.recurses==Tryz.pinned.checked.prog.recurses 3))&&((jc.named==Tryz.pinned.checked.prog.varsNamed 3)))=true:=kR
theorem j2:(((jc.maps==(Tryz.f3.params.toList++js.plain.varTypes Tryz.pinned.checked.prog).any (Tryz.pinned.checked.prog.mapsRec ·)))&&((jc.ifaces==(Tryz.f3.params.toList++js.plain.varTypes Tryz.pinned.checked.prog).any (Tryz.pinned.checked.prog.ifacesRec ·)))&&((jc.mapsOut==Tryz.pinned.checked.prog.mapsAmong Tryz.f3.resultTypes.toList))&&((jc.loops==(Tryz.f3.params.toList++js.plain.varTypes Tryz.pinned.checked.prog).any (Tryz.pinned.checked.prog.loopsFrom ·)))&&((jc.wideKeys==(Tryz.f3.params.toList++js.plain.varTypes Tryz.pinned.checked.prog++Tryz.f3.resultTypes.toList).any (Tryz.pinned.checked.prog.wideKeysFrom ·)))&&(js.vars.all (Tryz.pinned.checked.prog.varReadable ·)))=true:=kR
theorem j3:((Tryz.f3.resultTypes.all (λt=>Tryz.pinned.checked.prog.readableRec t&&decide (t < Tryz.pinned.checked.prog.types.size)))&&((jc.ifacesOut==Tryz.f3.resultTypes.toList.any (Tryz.pinned.checked.prog.ifacesRec ·)))&&((jc.loopsOut==Tryz.f3.resultTypes.toList.any (Tryz.pinned.checked.prog.loopsFrom ·)))&&((jc.plainKeys==Tryz.pinned.checked.prog.plainKeys))&&(jc.shortTexts.isNone)&&(Tryz.pinned.checked.prog.stopsHeard)&&(Tryz.pinned.checked.prog.mayEnter)&&((jc.lifted==Tryz.pinned.checked.prog.liftsFinal))&&((Tryz.pinned.checked.prog.make==some jc.make))&&((jc.kinds==(if jc.domain.isEmpty then [] else Tryz.f3.params.toList.map λt=>match Tryz.pinned.checked.prog.underlying t with|some (.int k)=>some k|_=>none)))&&((jc.pinned==jc.pinnedBy))&&((jc.veiled==(Tryz.f3.params.toList++js.plain.varTypes Tryz.pinned.checked.prog++Tryz.f3.resultTypes.toList).any (Tryz.pinned.checked.prog.veiledRec ·)))&&(jc.veiledFits Tryz.pinned.checked.prog Tryz.f3.params.toList (Tryz.f3.params.toList++js.plain.varTypes Tryz.pinned.checked.prog++Tryz.f3.resultTypes.toList)))=true:=kR
set_option maxRecDepth 100000 in
theorem jAll:joinedFacts Tryz.pinned.checked.prog 3 Tryz.f3 (OpenSpec.ofChange Rows.inferBigSpec).bare Rows.inferBigRow=true:=(jT (jT (jT (jT (jT (jT (jT (jT (jT (jT (jT (jT (jT (jT (jT (jT (jT (jT (jT (jT (jT (jT (jT (jT (jT (jT (jT (jT (jT (jT (jT (jL (jL (jL (jL (jL (jL (jL (jL j0)))))))) (jR (jL (jL (jL (jL (jL (jL (jL j0))))))))) (jR (jL (jL (jL (jL (jL (jL j0)))))))) (jR (jL (jL (jL (jL (jL j0))))))) (jR (jL (jL (jL (jL j0)))))) (jR (jL (jL (jL j0))))) (jR (jL (jL j0)))) (jR (jL j0))) (jR j0)) (jL (jL (jL j1)))) (jR (jL (jL j1)))) (jR (jL j1))) (jR j1)) (jL (jL (jL (jL (jL j2)))))) (jR (jL (jL (jL (jL j2)))))) (jR (jL (jL (jL j2))))) (jR (jL (jL j2)))) (jR (jL j2))) (jR j2)) (jL (jL (jL (jL (jL (jL (jL (jL (jL (jL (jL (jL j3))))))))))))) (jR (jL (jL (jL (jL (jL (jL (jL (jL (jL (jL (jL j3))))))))))))) (jR (jL (jL (jL (jL (jL (jL (jL (jL (jL (jL j3)))))))))))) (jR (jL (jL (jL (jL (jL (jL (jL (jL (jL j3))))))))))) (jR (jL (jL (jL (jL (jL (jL (jL (jL j3)))))))))) (jR (jL (jL (jL (jL (jL (jL (jL j3))))))))) (jR (jL (jL (jL (jL (jL (jL j3)))))))) (jR (jL (jL (jL (jL (jL j3))))))) (jR (jL (jL (jL (jL j3)))))) (jR (jL (jL (jL j3))))) (jR (jL (jL j3)))) (jR (jL j3))) (jR j3))
theorem said:Rows.InferBigSaid :=
 OpenClaim.holds_of_cond 3 Tryz.f3 C C C C C C C ⟨C,C,C,C,C⟩ C C C C C kR Tryz.func3 jAll
   (of_decide_eq_true kR) (by unfold Func.isWrapper;first|(rw[if_pos (by decide +kernel)];kernel_rfl)|(rw[if_neg (by decide +kernel)];exact⟨C,C⟩))
   (λos started H enc _ F=>by rw[OpenClaim.pre_eq_preRow];exact lifted os started H enc F)
theorem plain(f:FuncId)(fn:Func)(hf:Tryz.pinned.checked.prog.funcNamed Rows.inferBigRow.func=some f)(hfn:Tryz.pinned.checked.prog.funcs[f]?=some fn) :
   true=Tryz.pinned.checked.prog.looks []∧∀(j:Nat) t,fn.params[j]?=some t→Tryz.pinned.checked.prog.wantsStandIn t=false:=by
 obtain rfl:f=3:=Option.some.inj ((show Tryz.prog.funcNamed Rows.inferBigRow.func=some 3 by kernel_rfl).symm.trans hf) |>.symm;obtain rfl:fn=Tryz.f3:=(Option.some.inj (Tryz.func3.symm.trans hfn)).symm;refine⟨kR,λj t ht=>?_⟩;rw[Tryz.params3] at ht;have hm:=Array.mem_of_getElem? ht;have ht2:t=3:=by simpa using hm
 rcases ht2 with rfl
 · exact (show Tryz.prog.wantsStandIn 3=false by kernel_rfl)
end Go.Proofs.YtplnpgpagkpnmaaGreatDoor.Big
namespace Go.Proofs.YtplnpgpagkpnmaaGreatDoor
theorem big_card:Rows.InferBigCardSaid :=
 Claim7.holds_tied_plain_at .later [] _ _ _ _ Big.said (λ_ h=>by cases h) kR (λ_ h=>by cases h) inferBig_row_tie C ⟨C,C⟩ kR C Big.plain kR
end Go.Proofs.YtplnpgpagkpnmaaGreatDoor
