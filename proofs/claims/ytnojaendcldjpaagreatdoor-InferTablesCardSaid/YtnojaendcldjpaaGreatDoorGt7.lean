/- InferTables: of every text the law answers true. -/
import Derived.Test.YtnojaendcldjpaaGreatDoorGt6
import Derived.ChangeMaps5
set_option linter.unusedVariables false
set_option linter.unusedSimpArgs false
namespace Go.Proofs.YtnojaendcldjpaaGreatDoor
open Go.SW Go.SP Go.RowKit Go.Proofs.Tryz
def L3(b1 b2 b3 b4 b5 b6:Nat)(S:List Nat)(x:yI):Ba :=
 sU (KX S 7) 8 (.pointer (some ⟨x.2.2.2.1,0,none⟩))<|sU (KX S 6) 7 (.pointer (some ⟨x.2.2.1,0,none⟩))<|sU (KX S 5) 21 (tV (T1.con F8 (T1.var 1).one) x.2.2.2.2.2.1 x.2.2.2.2.2.2)<|sU (KX S 2) 18 (tV (T1.con GA (T1.var 1).one) x.2.2.2.2.1.1 x.2.2.2.2.1.2) <|
 sU (KX S 4) 20 (.slice (some ⟨x.2.1,0,none⟩) 1 1)<|sU (KX S 1) 17 (.slice (some ⟨x.1,0,none⟩) 1 1)<|E8 1 (.pointer (some ⟨b1,0,none⟩)) 2 (.pointer (some ⟨b2,0,none⟩)) 3 (.pointer (some ⟨b3,0,none⟩)) 4 (.pointer (some ⟨b4,0,none⟩)) 5 (.pointer (some ⟨b5,0,none⟩)) 6 (.pointer (some ⟨b6,0,none⟩)) 16 (tV (.var 1) none 0) 19 (tV (.var 1) none 0)
def EE(b1 b2 b3 b4 b5 b6:Nat)(S:List Nat)(x:yI):List HB :=
 sL (KX S 7) ⟨x.2.2.2.1,[.int .i64 0,.int .i64 0,.string ⟨#[]⟩,.slice none 0 0],34,true⟩<|sL (KX S 6) ⟨x.2.2.1,[.int .i64 0,.int .i64 0,.string ⟨#[]⟩,.slice none 0 0],34,true⟩<|sL (KX S 4&&!KX S 5) ⟨x.2.1,tC (.var 1) none 0,34,true⟩<|sL (KX S 1&&!KX S 2) ⟨x.1,tC (.var 1) none 0,34,true⟩ [⟨b6,tC (.var 1) none 0,34,true⟩,⟨b5,tC (c0 bU) none 0,34,true⟩,⟨b4,tC (c0 bB) none 0,34,true⟩,⟨b3,tC (c0 bS) none 0,34,true⟩,⟨b2,tC (c0 bF) none 0,34,true⟩,⟨b1,tC (c0 bI) none 0,34,true⟩]
def f17(S:List Nat)(x:yI):List (wO→Fq→Prop) :=
 sL (KX S 5) (λw f=>Al w f (T1.var 1).one x.2.2.2.2.2.1 x.2.2.2.2.2.2)<|sL (KX S 2) (λw f=>Al w f (T1.var 1).one x.2.2.2.2.1.1 x.2.2.2.2.1.2) []
variable {Q:AV}{af:Array Edge}{σ:Ba}{F0:List (wO→Fq→Prop)}{ds:List Deferred}{B:List FB}{fs:List Fr}{H H':List HB}{r:List Oper}{xs:lV}{d n n0 nb oc:Nat}{M:Nat→Prop}{g:Option (Nat×Bool)}{oa:oA}{T T' ty:tI}{w0:wO}
theorem Gy{f0:Fq}{H1:List HB}{all:List Oper}{op:Op}{pos:String}{tb:Nat}(ka O L:Nat)(D:List Q3)(G:List lU)
   (he:∀w,SW.Enters prog σ op ty w 21 #[.slice oa n0 oc,.slice (some ⟨nb,0,none⟩) G.length G.length,.slice (some ⟨tb,0,none⟩) D.length D.length]) (hg:gd all σ g=some true) (hd:Nat.blt d n=true) (U:G9 H ka=some ⟨nb,G.flatMap sC,T',true⟩) (W:JD H ka=some H1) (Y:G9 H1 O=some ⟨tb,vE D,T,true⟩) (Z:JD H1 O=some H')
   (hG:∀w f H B,AO ⟨M,TR oa,Hy 36 oa oc n0 xs,w0,f0⟩ w f H [] B ((λw f=>BS w f (AQ.take n0) xs)::F0)→hoL w f D)
   (h:∀a c xs',A1 prog n Q ds ⟨M,TR a,Hy 36 a c L xs',w0,f0⟩ [] B ((λw f=>BS w f (AQ.take L) xs')::F0) (.ops all r) fs (AI σ d (.slice a L c)) H')
   (hp:AQ.take n0++G.map (λnm=>(nm,((No D).len:Int)-1,GC (No D)))=AQ.take L:=by kernel_rfl) (hn:n0+G.length=L:=by kernel_rfl) (J:(AQ.take n0).length=n0:=by kernel_rfl)
   (hc:(Nat.ble (n0+G.length) 1000&&(Nat.ble 1 D.length&&Nat.ble D.length 10))=true:=by kernel_rfl) :
   A1 prog n Q ds ⟨M,TR oa,Hy 36 oa oc n0 xs,w0,f0⟩ [] B ((λw f=>BS w f (AQ.take n0) xs)::F0) (.ops all (⟨some d,op,ty,pos,af,g⟩::r)) fs σ H:=by
 simp only[Bool.and_eq_true] at hc;obtain⟨h1,h2,h3⟩:=hc;have e:=MH D;have h2':1≤(No D).len:=by rw[e];exact Nat.le_of_ble_eq_true h2
 have h3':(No D).len≤10:=by rw[e];exact Nat.le_of_ble_eq_true h3
 subst hn;have he':∀w,SW.Enters prog σ op ty w 21 #[.slice oa (AQ.take n0).length oc,.slice (some ⟨nb,0,none⟩) G.length G.length,.slice (some ⟨tb,0,none⟩) (No D).len D.length]:=by rw[e,J];exact he
 refine Di ka U W<|Di O Y Z<|BI (λw f=>Dc sC w f G (some ⟨nb,0,none⟩) G.length) (λw f F=>⟨Nat.le_refl _,.inr ⟨nb,0,C,F.b1⟩⟩) Dc.mono<|BI (λw f=>Al w f (No D) (some ⟨tb,0,none⟩) D.length) (λw f F=>BT (hG w f _ _ (F.less sR sR (λ_ h=>h) (λ_ h=>.tail _ h))) F.b0) Al.mono<|fN (XX:=λ_ _=>False) hg hd he' (λw f F=>(nG w f F.vl oa oc (AQ.take n0) xs (by rw[J];exact F.res) F.f2 F.mz G (some ⟨nb,0,none⟩) G.length (by rw[J];exact Nat.le_of_ble_eq_true h1) F.f1 (No D) (some ⟨tb,0,none⟩) D.length ⟨h2',h3'⟩ F.f0).retP) (λ_=>Hy.stab) (λ_=>⟨BS.mono,tQ⟩) (λ_ _ _ _ _ h=>h.elim) ?_;rintro⟨a,c,xs'⟩ -;refine λw f F=>?_;rw[J];rw[J] at F;refine h a c xs' w f ?_;rw[← hp];refine F.less sR sR (λe he=>.tail _ (.tail _ he)) (λφ K=>?_);rcases List.mem_cons.1 K with rfl|K
 · exact .head _
 · exact .tail _ (.tail _ (.tail _ (.tail _ K)))
def Tj:OT:=.br 9 .fin .fin
def HL:OT:=.br 8 Tj .fin
def H0:OT:=.br 5 HL .fin
def Je:OT:=.br 2 H0 .fin
def Na:OT:=.br 1 Je .fin
def Lh:OT:=.br 4 H0 .fin
def MV:OT:=.br 2 Lh (.br 4 Je .fin)
def Vq:OT:=.br 1 MV (.br 4 Na .fin)
def LD:OT:=.br 6 HL .fin
def KJ:OT:=.br 5 LD (.br 6 H0 .fin)
def MX:OT:=.br 2 KJ (.br 6 Je .fin)
def UU:OT:=.br 1 MX (.br 6 Na .fin)
def Rc:OT:=.br 4 KJ (.br 6 Lh .fin)
def Uc:OT:=.br 2 Rc (.br 4 MX (.br 6 MV .fin))
def qJ:OT:=.br 1 Uc (.br 4 UU (.br 6 Vq .fin))
def LB:OT:=.br 7 HL .fin
def KW:OT:=.br 5 LB (.br 7 H0 .fin)
def MU:OT:=.br 2 KW (.br 7 Je .fin)
def U9:OT:=.br 1 MU (.br 7 Na .fin)
def R7:OT:=.br 4 KW (.br 7 Lh .fin)
def Ud:OT:=.br 2 R7 (.br 4 MU (.br 7 MV .fin))
def pG:OT:=.br 1 Ud (.br 4 U9 (.br 7 Vq .fin))
def SQ:OT:=.br 6 LB (.br 7 LD .fin)
def QK:OT:=.br 5 SQ (.br 6 KW (.br 7 KJ .fin))
def Vk:OT:=.br 2 QK (.br 6 MU (.br 7 MX .fin))
def oT:OT:=.br 1 Vk (.br 6 U9 (.br 7 UU .fin))
def fB:OT:=.br 4 QK (.br 6 R7 (.br 7 Rc .fin))
def oO:OT:=.br 2 fB (.br 4 Vk (.br 6 Ud (.br 7 Uc .fin)))
def yW:OT:=.br 1 oO (.br 4 oT (.br 6 pG (.br 7 qJ .fin)))
theorem sX(w:wO)(f:Fq)(hv:Vl w f) :
   AX prog 6 #[] w (AU (α:=oA×Nat) (λx=>.slice x.1 AQ.length x.2) (λ_=>True) (λx=>[λw f=>IE w f AQ x.1 x.2]) w f):=by
 refine Gb (X:=⟨λ_=>False,TR none,Hy 36 none 0 0 [],w,f⟩) (H:=[]) (R:=[]) (B:=[]) (Fs:=[]) (f:=f) func6 C C C (primM hv)<|Aa 7 (λ_=>BO C C (eC DG C C) (λw f D=>It w f D.vl [105,110,116] 0 none 0)<|BO C C (eC DG C C) (λw f D=>It w f D.vl [102,108,111,97,116] 0 none 0)<|BO C C (eC DG C C) (λw f D=>It w f D.vl [115,116,114,105,110,103] 0 none 0)<|BO C C (eC DG C C) (λw f D=>It w f D.vl [98,111,111,108] 0 none 0)<|BO C C (eC DG C C) (λw f D=>It w f D.vl [117,110,105,116] 0 none 0)<|Ae 14 [4,3,2,1,0] (λb1=>λb2=>λb3=>λb4=>λb5=>y<|y<|y<|y<|y<|λ_=>BO C C (eC rK C C) (λw f D=>xD w f D.vl 1)<|Ae 5 [0] (λb6=>y<|λ_=>?_)));refine OE (α:=Nat×Nat×(oA×Nat)×(oA×Nat)) (λx=>True) (λx=>(E8 1 (.pointer (some ⟨b1,0,none⟩)) 2 (.pointer (some ⟨b2,0,none⟩)) 3 (.pointer (some ⟨b3,0,none⟩)) 4 (.pointer (some ⟨b4,0,none⟩)) 5 (.pointer (some ⟨b5,0,none⟩)) 6 (.pointer (some ⟨b6,0,none⟩)) 7 (.pointer (some ⟨x.1,0,none⟩)) 8 (.pointer (some ⟨x.2.1,0,none⟩)))) (λx=>⟨λ_=>False,TR none,Hy 36 none 0 0 [],w,f⟩) (λx=>[⟨x.2.1,tC (T1.con F8 (T1.var 1).one) x.2.2.2.1 x.2.2.2.2,34,true⟩,⟨x.1,tC (T1.con GA (T1.var 1).one) x.2.2.1.1 x.2.2.1.2,34,true⟩,⟨b6,tC (.var 1) none 0,34,true⟩,⟨b5,tC (c0 bU) none 0,34,true⟩,⟨b4,tC (c0 bB) none 0,34,true⟩,⟨b3,tC (c0 bS) none 0,34,true⟩,⟨b2,tC (c0 bF) none 0,34,true⟩,⟨b1,tC (c0 bI) none 0,34,true⟩]) (λx=>[]) (λx=>[]) (λx=>[λw f=>Al w f (T1.var 1).one x.2.2.2.1 x.2.2.2.2,λw f=>Al w f (T1.var 1).one x.2.2.1.1 x.2.2.1.2]) ?_ ?_;refine Cq [0,1,2,3,4,5] Aj (.rd 0 (.rd 3 yW)) C kR<|By 2 [0,0] (y<|y<|λ_=>EY HL (L3 b1 b2 b3 b4 b5 b6 [1,2,4,5,6,7]) (EE b1 b2 b3 b4 b5 b6 [1,2,4,5,6,7]) (λ_=>[]) (f17 [1,2,4,5,6,7]) ?_ (λW=>?_))
 · rintro⟨F,G,b7,O,⟨L,rc⟩,⟨J,K⟩⟩
   exact Ak C<|Ae 2 [1] (y<|λ_=>Ar [2,3,4,5,6,7] C<|Ak C<|Ae 2 [0] (y<|λ_=>Ar [2,3,4,5,6,7] C<|BG<|Lx (b7,O,(L,rc),(J,K)) tQ lE (λw f D=>⟨f,D⟩)))
 refine EY LD (L3 b1 b2 b3 b4 b5 b6 [1,2,4,5,7]) (EE b1 b2 b3 b4 b5 b6 [1,2,4,5,7]) (λ_=>[]) (f17 [1,2,4,5,7]) ?_ (λhS12457=>?_)
 · rintro⟨F,G,b7,O,⟨L,rc⟩,⟨J,K⟩⟩
   exact Ak C<|Aa 2 (λq=>λ_=>Ar [2,3,4,5,6,7] C<|BL W (F,G,q,O,(L,rc),(J,K)) lE (λw f D=>D.perm (List.perm_middle (l₁:=[_]))))
 refine EY LB (L3 b1 b2 b3 b4 b5 b6 [1,2,4,5,6]) (EE b1 b2 b3 b4 b5 b6 [1,2,4,5,6]) (λ_=>[]) (f17 [1,2,4,5,6]) ?_ (λhS12456=>?_)
 · rintro⟨F,G,b7,O,⟨L,rc⟩,⟨J,K⟩⟩
   exact Ak C<|Aa 2 (λq=>λ_=>Ar [2,3,4,5,6,7] C<|BL W (F,G,b7,q,(L,rc),(J,K)) lE (λw f D=>D))
 refine EY H0 (L3 b1 b2 b3 b4 b5 b6 [1,2,4,6,7]) (EE b1 b2 b3 b4 b5 b6 [1,2,4,6,7]) (λ_=>[]) (f17 [1,2,4,6,7]) ?_ (λU=>?_)
 · rintro⟨F,G,b7,O,⟨L,rc⟩,⟨J,K⟩⟩
   exact Ak C<|Di 2 C C<|BI (λw f=>Al w f (T1.var 1).one (some ⟨G,0,none⟩) 1) (λw f D=>BT (l:=[(.var 1,none,0)]) ⟨Al.nil _ _ _ _,tQ⟩ D.b0) Al.mono<|BO C C (eC DG C C) (λw f D=>It w f D.vl F8 1 (some ⟨G,0,none⟩) 1)<|Aa 1 (λ_=>Bv [2,3,4,5,6,7] Ef C (λ_ h=>.tail _ h)<|BL W (F,G,b7,O,(L,rc),((some ⟨G,0,none⟩),1)) lE (λw f D=>D.less sR sR nE (mR [0,1])))
 refine EY KJ (L3 b1 b2 b3 b4 b5 b6 [1,2,4,7]) (EE b1 b2 b3 b4 b5 b6 [1,2,4,7]) (λ_=>[]) (f17 [1,2,4,7]) ?_ (λZ=>?_)
 · rintro⟨F,G,b7,O,⟨L,rc⟩,⟨J,K⟩⟩
   refine Cl C ?_ ?_;exact Di 1 C C<|BI (λw f=>Al w f (T1.var 1).one (some ⟨G,0,none⟩) 1) (λw f D=>BT (l:=[(.var 1,none,0)]) ⟨Al.nil _ _ _ _,tQ⟩ D.b0) Al.mono<|BO C C (eC DG C C) (λw f D=>It w f D.vl F8 1 (some ⟨G,0,none⟩) 1)<|Aa 1 (λ_=>Bv [1,2,3,4,5,6] Ef C (λ_ h=>.tail _ h)<|BL hS12457 (F,G,b7,O,(L,rc),((some ⟨G,0,none⟩),1)) lE (λw f D=>D.less sR sR nE (mR [0,1])));exact Ak C<|Aa 2 (λq=>λ_=>Ar [3,4,5,6,7,8] C<|BL U (F,G,q,O,(L,rc),(J,K)) lE (λw f D=>D.perm (List.perm_middle (l₁:=[_]))))
 refine EY Lh (L3 b1 b2 b3 b4 b5 b6 [1,2,6,7]) (EE b1 b2 b3 b4 b5 b6 [1,2,6,7]) (λ_=>[]) (f17 [1,2,6,7]) ?_ (λhS1267=>?_)
 · rintro⟨F,G,b7,O,⟨L,rc⟩,⟨J,K⟩⟩
   exact Ak C<|Aa 2 (λq=>λ_=>Ar [3,4,5,6,7,8] C<|BL U (F,q,b7,O,(L,rc),(J,K)) lE (λw f D=>D.perm (List.perm_middle (l₁:=[_,_]))))
 refine EY KW (L3 b1 b2 b3 b4 b5 b6 [1,2,4,6]) (EE b1 b2 b3 b4 b5 b6 [1,2,4,6]) (λ_=>[]) (f17 [1,2,4,6]) ?_ (λhS1246=>?_)
 · rintro⟨F,G,b7,O,⟨L,rc⟩,⟨J,K⟩⟩
   refine Cl C ?_ ?_;exact Di 1 C C<|BI (λw f=>Al w f (T1.var 1).one (some ⟨G,0,none⟩) 1) (λw f D=>BT (l:=[(.var 1,none,0)]) ⟨Al.nil _ _ _ _,tQ⟩ D.b0) Al.mono<|BO C C (eC DG C C) (λw f D=>It w f D.vl F8 1 (some ⟨G,0,none⟩) 1)<|Aa 1 (λ_=>Bv [1,2,3,4,5,6] Ef C (λ_ h=>.tail _ h)<|BL hS12456 (F,G,b7,O,(L,rc),((some ⟨G,0,none⟩),1)) lE (λw f D=>D.less sR sR nE (mR [0,1])));exact Ak C<|Aa 2 (λq=>λ_=>Ar [3,4,5,6,7,8] C<|BL U (F,G,b7,q,(L,rc),(J,K)) lE (λw f D=>D))
 refine EY SQ (L3 b1 b2 b3 b4 b5 b6 [1,2,4,5]) (EE b1 b2 b3 b4 b5 b6 [1,2,4,5]) (λ_=>[]) (f17 [1,2,4,5]) ?_ (λhS1245=>?_)
 · rintro⟨F,G,b7,O,⟨L,rc⟩,⟨J,K⟩⟩
   refine Cl C ?_ ?_;exact Aa 2 (λq=>λ_=>Ar [1,2,3,4,5,6] C<|BL hS12456 (F,G,q,O,(L,rc),(J,K)) lE (λw f D=>D));exact Ak C<|Aa 2 (λq=>λ_=>Ar [1,2,3,4,5,6] C<|BL hS12457 (F,G,b7,q,(L,rc),(J,K)) lE (λw f D=>D))
 refine EY Je (L3 b1 b2 b3 b4 b5 b6 [1,4,6,7]) (EE b1 b2 b3 b4 b5 b6 [1,4,6,7]) (λ_=>[]) (f17 [1,4,6,7]) ?_ (λY=>?_)
 · rintro⟨F,G,b7,O,⟨L,rc⟩,⟨J,K⟩⟩
   exact Ak C<|Di 3 C C<|BI (λw f=>Al w f (T1.var 1).one (some ⟨F,0,none⟩) 1) (λw f D=>BT (l:=[(.var 1,none,0)]) ⟨Al.nil _ _ _ _,tQ⟩ D.b0) Al.mono<|BO C C (eC DG C C) (λw f D=>It w f D.vl GA 1 (some ⟨F,0,none⟩) 1)<|Aa 1 (λ_=>Bv [3,4,5,6,7,8] Ef C (λ_ h=>.tail _ h)<|BL U (F,G,b7,O,((some ⟨F,0,none⟩),1),(J,K)) lE (λw f D=>D.less sR sR nE (mR [0])))
 refine EY MU (L3 b1 b2 b3 b4 b5 b6 [1,4,6]) (EE b1 b2 b3 b4 b5 b6 [1,4,6]) (λ_=>[]) (f17 [1,4,6]) ?_ (λhS146=>?_)
 · rintro⟨F,G,b7,O,⟨L,rc⟩,⟨J,K⟩⟩
   refine Cl C ?_ ?_;exact Di 2 C C<|BI (λw f=>Al w f (T1.var 1).one (some ⟨F,0,none⟩) 1) (λw f D=>BT (l:=[(.var 1,none,0)]) ⟨Al.nil _ _ _ _,tQ⟩ D.b0) Al.mono<|BO C C (eC DG C C) (λw f D=>It w f D.vl GA 1 (some ⟨F,0,none⟩) 1)<|Aa 1 (λ_=>Bv [2,3,4,5,6,7] Ef C (λ_ h=>.tail _ h)<|BL hS1246 (F,G,b7,O,((some ⟨F,0,none⟩),1),(J,K)) lE (λw f D=>D.less sR sR nE (mR [0])));exact Ak C<|Aa 2 (λq=>λ_=>Ar [4,5,6,7,8,9] C<|BL Y (F,G,b7,q,(L,rc),(J,K)) lE (λw f D=>D))
 refine EY MX (L3 b1 b2 b3 b4 b5 b6 [1,4,7]) (EE b1 b2 b3 b4 b5 b6 [1,4,7]) (λ_=>[]) (f17 [1,4,7]) ?_ (λhS147=>?_)
 · rintro⟨F,G,b7,O,⟨L,rc⟩,⟨J,K⟩⟩
   refine Cl C ?_ ?_;exact Di 2 C C<|BI (λw f=>Al w f (T1.var 1).one (some ⟨F,0,none⟩) 1) (λw f D=>BT (l:=[(.var 1,none,0)]) ⟨Al.nil _ _ _ _,tQ⟩ D.b0) Al.mono<|BO C C (eC DG C C) (λw f D=>It w f D.vl GA 1 (some ⟨F,0,none⟩) 1)<|Aa 1 (λ_=>Bv [2,3,4,5,6,7] Ef C (λ_ h=>.tail _ h)<|BL Z (F,G,b7,O,((some ⟨F,0,none⟩),1),(J,K)) lE (λw f D=>D.less sR sR nE (mR [0])));exact Ak C<|Aa 2 (λq=>λ_=>Ar [4,5,6,7,8,9] C<|BL Y (F,G,q,O,(L,rc),(J,K)) lE (λw f D=>D.perm (List.perm_middle (l₁:=[_]))))
 refine EY Rc (L3 b1 b2 b3 b4 b5 b6 [1,2,7]) (EE b1 b2 b3 b4 b5 b6 [1,2,7]) (λ_=>[]) (f17 [1,2,7]) ?_ (λhS127=>?_)
 · rintro⟨F,G,b7,O,⟨L,rc⟩,⟨J,K⟩⟩
   refine Cl C ?_ ?_;exact Aa 2 (λq=>λ_=>Ar [2,3,4,5,6,7] C<|BL Z (F,q,b7,O,(L,rc),(J,K)) lE (λw f D=>D.perm (List.perm_middle (l₁:=[_]))));exact Ak C<|Aa 2 (λq=>λ_=>Ar [2,3,4,5,6,7] C<|BL hS1267 (F,G,q,O,(L,rc),(J,K)) lE (λw f D=>D.perm (List.perm_middle (l₁:=[_]))))
 refine EY MV (L3 b1 b2 b3 b4 b5 b6 [1,6,7]) (EE b1 b2 b3 b4 b5 b6 [1,6,7]) (λ_=>[]) (f17 [1,6,7]) ?_ (λhS167=>?_)
 · rintro⟨F,G,b7,O,⟨L,rc⟩,⟨J,K⟩⟩
   refine Cl C ?_ ?_;exact Di 2 C C<|BI (λw f=>Al w f (T1.var 1).one (some ⟨F,0,none⟩) 1) (λw f D=>BT (l:=[(.var 1,none,0)]) ⟨Al.nil _ _ _ _,tQ⟩ D.b0) Al.mono<|BO C C (eC DG C C) (λw f D=>It w f D.vl GA 1 (some ⟨F,0,none⟩) 1)<|Aa 1 (λ_=>Bv [2,3,4,5,6,7] Ef C (λ_ h=>.tail _ h)<|BL hS1267 (F,G,b7,O,((some ⟨F,0,none⟩),1),(J,K)) lE (λw f D=>D.less sR sR nE (mR [0])));exact Ak C<|Aa 2 (λq=>λ_=>Ar [4,5,6,7,8,9] C<|BL Y (F,q,b7,O,(L,rc),(J,K)) lE (λw f D=>D.perm (List.perm_middle (l₁:=[_,_]))))
 refine EY R7 (L3 b1 b2 b3 b4 b5 b6 [1,2,6]) (EE b1 b2 b3 b4 b5 b6 [1,2,6]) (λ_=>[]) (f17 [1,2,6]) ?_ (λhS126=>?_)
 · rintro⟨F,G,b7,O,⟨L,rc⟩,⟨J,K⟩⟩
   refine Cl C ?_ ?_;exact Aa 2 (λq=>λ_=>Ar [2,3,4,5,6,7] C<|BL hS1246 (F,q,b7,O,(L,rc),(J,K)) lE (λw f D=>D.perm (List.perm_middle (l₁:=[_]))));exact Ak C<|Aa 2 (λq=>λ_=>Ar [2,3,4,5,6,7] C<|BL hS1267 (F,G,b7,q,(L,rc),(J,K)) lE (λw f D=>D))
 refine EY Na (L3 b1 b2 b3 b4 b5 b6 [4,6,7]) (EE b1 b2 b3 b4 b5 b6 [4,6,7]) (λ_=>[]) (f17 [4,6,7]) ?_ (λhS467=>?_)
 · rintro⟨F,G,b7,O,⟨L,rc⟩,⟨J,K⟩⟩
   exact Ak C<|Aa 2 (λq=>λ_=>Ar [4,5,6,7,8,9] C<|BL Y (q,G,b7,O,(L,rc),(J,K)) lE (λw f D=>D.perm (List.perm_middle (l₁:=[_,_,_]))))
 refine EY QK (L3 b1 b2 b3 b4 b5 b6 [1,2,4]) (EE b1 b2 b3 b4 b5 b6 [1,2,4]) (λ_=>[]) (f17 [1,2,4]) ?_ (λhS124=>?_)
 · rintro⟨F,G,b7,O,⟨L,rc⟩,⟨J,K⟩⟩
   refine Cl C ?_ ?_;exact Di 0 C C<|BI (λw f=>Al w f (T1.var 1).one (some ⟨G,0,none⟩) 1) (λw f D=>BT (l:=[(.var 1,none,0)]) ⟨Al.nil _ _ _ _,tQ⟩ D.b0) Al.mono<|BO C C (eC DG C C) (λw f D=>It w f D.vl F8 1 (some ⟨G,0,none⟩) 1)<|Aa 1 (λ_=>Bv [0,1,2,3,4,5] Ef C (λ_ h=>.tail _ h)<|BL hS1245 (F,G,b7,O,(L,rc),((some ⟨G,0,none⟩),1)) lE (λw f D=>D.less sR sR nE (mR [0,1])));refine Cl C ?_ ?_;exact Aa 2 (λq=>λ_=>Ar [2,3,4,5,6,7] C<|BL hS1246 (F,G,q,O,(L,rc),(J,K)) lE (λw f D=>D));exact Ak C<|Aa 2 (λq=>λ_=>Ar [2,3,4,5,6,7] C<|BL Z (F,G,b7,q,(L,rc),(J,K)) lE (λw f D=>D))
 refine EY Vk (L3 b1 b2 b3 b4 b5 b6 [1,4]) (EE b1 b2 b3 b4 b5 b6 [1,4]) (λ_=>[]) (f17 [1,4]) ?_ (λhS14=>?_)
 · rintro⟨F,G,b7,O,⟨L,rc⟩,⟨J,K⟩⟩
   refine Cl C ?_ ?_;exact Di 1 C C<|BI (λw f=>Al w f (T1.var 1).one (some ⟨F,0,none⟩) 1) (λw f D=>BT (l:=[(.var 1,none,0)]) ⟨Al.nil _ _ _ _,tQ⟩ D.b0) Al.mono<|BO C C (eC DG C C) (λw f D=>It w f D.vl GA 1 (some ⟨F,0,none⟩) 1)<|Aa 1 (λ_=>Bv [1,2,3,4,5,6] Ef C (λ_ h=>.tail _ h)<|BL hS124 (F,G,b7,O,((some ⟨F,0,none⟩),1),(J,K)) lE (λw f D=>D.less sR sR nE (mR [0])));refine Cl C ?_ ?_;exact Aa 2 (λq=>λ_=>Ar [3,4,5,6,7,8] C<|BL hS146 (F,G,q,O,(L,rc),(J,K)) lE (λw f D=>D));exact Ak C<|Aa 2 (λq=>λ_=>Ar [3,4,5,6,7,8] C<|BL hS147 (F,G,b7,q,(L,rc),(J,K)) lE (λw f D=>D))
 refine EY U9 (L3 b1 b2 b3 b4 b5 b6 [4,6]) (EE b1 b2 b3 b4 b5 b6 [4,6]) (λ_=>[]) (f17 [4,6]) ?_ (λhS46=>?_)
 · rintro⟨F,G,b7,O,⟨L,rc⟩,⟨J,K⟩⟩
   refine Cl C ?_ ?_;exact Aa 2 (λq=>λ_=>Ar [3,4,5,6,7,8] C<|BL hS146 (q,G,b7,O,(L,rc),(J,K)) lE (λw f D=>D.perm (List.perm_middle (l₁:=[_,_]))));exact Ak C<|Aa 2 (λq=>λ_=>Ar [3,4,5,6,7,8] C<|BL hS467 (F,G,b7,q,(L,rc),(J,K)) lE (λw f D=>D))
 refine EY Uc (L3 b1 b2 b3 b4 b5 b6 [1,7]) (EE b1 b2 b3 b4 b5 b6 [1,7]) (λ_=>[]) (f17 [1,7]) ?_ (λhS17=>?_)
 · rintro⟨F,G,b7,O,⟨L,rc⟩,⟨J,K⟩⟩
   refine Cl C ?_ ?_;exact Di 1 C C<|BI (λw f=>Al w f (T1.var 1).one (some ⟨F,0,none⟩) 1) (λw f D=>BT (l:=[(.var 1,none,0)]) ⟨Al.nil _ _ _ _,tQ⟩ D.b0) Al.mono<|BO C C (eC DG C C) (λw f D=>It w f D.vl GA 1 (some ⟨F,0,none⟩) 1)<|Aa 1 (λ_=>Bv [1,2,3,4,5,6] Ef C (λ_ h=>.tail _ h)<|BL hS127 (F,G,b7,O,((some ⟨F,0,none⟩),1),(J,K)) lE (λw f D=>D.less sR sR nE (mR [0])));refine Cl C ?_ ?_;exact Aa 2 (λq=>λ_=>Ar [3,4,5,6,7,8] C<|BL hS147 (F,q,b7,O,(L,rc),(J,K)) lE (λw f D=>D.perm (List.perm_middle (l₁:=[_]))));exact Ak C<|Aa 2 (λq=>λ_=>Ar [3,4,5,6,7,8] C<|BL hS167 (F,G,q,O,(L,rc),(J,K)) lE (λw f D=>D.perm (List.perm_middle (l₁:=[_]))))
 refine EY Ud (L3 b1 b2 b3 b4 b5 b6 [1,6]) (EE b1 b2 b3 b4 b5 b6 [1,6]) (λ_=>[]) (f17 [1,6]) ?_ (λhS16=>?_)
 · rintro⟨F,G,b7,O,⟨L,rc⟩,⟨J,K⟩⟩
   refine Cl C ?_ ?_;exact Di 1 C C<|BI (λw f=>Al w f (T1.var 1).one (some ⟨F,0,none⟩) 1) (λw f D=>BT (l:=[(.var 1,none,0)]) ⟨Al.nil _ _ _ _,tQ⟩ D.b0) Al.mono<|BO C C (eC DG C C) (λw f D=>It w f D.vl GA 1 (some ⟨F,0,none⟩) 1)<|Aa 1 (λ_=>Bv [1,2,3,4,5,6] Ef C (λ_ h=>.tail _ h)<|BL hS126 (F,G,b7,O,((some ⟨F,0,none⟩),1),(J,K)) lE (λw f D=>D.less sR sR nE (mR [0])));refine Cl C ?_ ?_;exact Aa 2 (λq=>λ_=>Ar [3,4,5,6,7,8] C<|BL hS146 (F,q,b7,O,(L,rc),(J,K)) lE (λw f D=>D.perm (List.perm_middle (l₁:=[_]))));exact Ak C<|Aa 2 (λq=>λ_=>Ar [3,4,5,6,7,8] C<|BL hS167 (F,G,b7,q,(L,rc),(J,K)) lE (λw f D=>D))
 refine EY UU (L3 b1 b2 b3 b4 b5 b6 [4,7]) (EE b1 b2 b3 b4 b5 b6 [4,7]) (λ_=>[]) (f17 [4,7]) ?_ (λhS47=>?_)
 · rintro⟨F,G,b7,O,⟨L,rc⟩,⟨J,K⟩⟩
   refine Cl C ?_ ?_;exact Aa 2 (λq=>λ_=>Ar [3,4,5,6,7,8] C<|BL hS147 (q,G,b7,O,(L,rc),(J,K)) lE (λw f D=>D.perm (List.perm_middle (l₁:=[_,_]))));exact Ak C<|Aa 2 (λq=>λ_=>Ar [3,4,5,6,7,8] C<|BL hS467 (F,G,q,O,(L,rc),(J,K)) lE (λw f D=>D.perm (List.perm_middle (l₁:=[_]))))
 refine EY Vq (L3 b1 b2 b3 b4 b5 b6 [6,7]) (EE b1 b2 b3 b4 b5 b6 [6,7]) (λ_=>[]) (f17 [6,7]) ?_ (λhS67=>?_)
 · rintro⟨F,G,b7,O,⟨L,rc⟩,⟨J,K⟩⟩
   refine Cl C ?_ ?_;exact Aa 2 (λq=>λ_=>Ar [3,4,5,6,7,8] C<|BL hS167 (q,G,b7,O,(L,rc),(J,K)) lE (λw f D=>D.perm (List.perm_middle (l₁:=[_,_]))));exact Ak C<|Aa 2 (λq=>λ_=>Ar [3,4,5,6,7,8] C<|BL hS467 (F,q,b7,O,(L,rc),(J,K)) lE (λw f D=>D.perm (List.perm_middle (l₁:=[_,_]))))
 refine EY fB (L3 b1 b2 b3 b4 b5 b6 [1,2]) (EE b1 b2 b3 b4 b5 b6 [1,2]) (λ_=>[]) (f17 [1,2]) ?_ (λhS12=>?_)
 · rintro⟨F,G,b7,O,⟨L,rc⟩,⟨J,K⟩⟩
   refine Cl C ?_ ?_;exact Aa 2 (λq=>λ_=>Ar [1,2,3,4,5,6] C<|BL hS124 (F,q,b7,O,(L,rc),(J,K)) lE (λw f D=>D));refine Cl C ?_ ?_;exact Aa 2 (λq=>λ_=>Ar [1,2,3,4,5,6] C<|BL hS126 (F,G,q,O,(L,rc),(J,K)) lE (λw f D=>D));exact Ak C<|Aa 2 (λq=>λ_=>Ar [1,2,3,4,5,6] C<|BL hS127 (F,G,b7,q,(L,rc),(J,K)) lE (λw f D=>D))
 refine EY oO (L3 b1 b2 b3 b4 b5 b6 [1]) (EE b1 b2 b3 b4 b5 b6 [1]) (λ_=>[]) (f17 [1]) ?_ (λhS1=>?_)
 · rintro⟨F,G,b7,O,⟨L,rc⟩,⟨J,K⟩⟩
   refine Cl C ?_ ?_;exact Di 0 C C<|BI (λw f=>Al w f (T1.var 1).one (some ⟨F,0,none⟩) 1) (λw f D=>BT (l:=[(.var 1,none,0)]) ⟨Al.nil _ _ _ _,tQ⟩ D.b0) Al.mono<|BO C C (eC DG C C) (λw f D=>It w f D.vl GA 1 (some ⟨F,0,none⟩) 1)<|Aa 1 (λ_=>Bv [0,1,2,3,4,5] Ef C (λ_ h=>.tail _ h)<|BL hS12 (F,G,b7,O,((some ⟨F,0,none⟩),1),(J,K)) lE (λw f D=>D.less sR sR nE (mR [0])));refine Cl C ?_ ?_;exact Aa 2 (λq=>λ_=>Ar [2,3,4,5,6,7] C<|BL hS14 (F,q,b7,O,(L,rc),(J,K)) lE (λw f D=>D));refine Cl C ?_ ?_;exact Aa 2 (λq=>λ_=>Ar [2,3,4,5,6,7] C<|BL hS16 (F,G,q,O,(L,rc),(J,K)) lE (λw f D=>D));exact Ak C<|Aa 2 (λq=>λ_=>Ar [2,3,4,5,6,7] C<|BL hS17 (F,G,b7,q,(L,rc),(J,K)) lE (λw f D=>D))
 refine EY oT (L3 b1 b2 b3 b4 b5 b6 [4]) (EE b1 b2 b3 b4 b5 b6 [4]) (λ_=>[]) (f17 [4]) ?_ (λhS4=>?_)
 · rintro⟨F,G,b7,O,⟨L,rc⟩,⟨J,K⟩⟩
   refine Cl C ?_ ?_;exact Aa 2 (λq=>λ_=>Ar [2,3,4,5,6,7] C<|BL hS14 (q,G,b7,O,(L,rc),(J,K)) lE (λw f D=>D.perm (List.perm_middle (l₁:=[_]))));refine Cl C ?_ ?_;exact Aa 2 (λq=>λ_=>Ar [2,3,4,5,6,7] C<|BL hS46 (F,G,q,O,(L,rc),(J,K)) lE (λw f D=>D));exact Ak C<|Aa 2 (λq=>λ_=>Ar [2,3,4,5,6,7] C<|BL hS47 (F,G,b7,q,(L,rc),(J,K)) lE (λw f D=>D))
 refine EY qJ (L3 b1 b2 b3 b4 b5 b6 [7]) (EE b1 b2 b3 b4 b5 b6 [7]) (λ_=>[]) (f17 [7]) ?_ (λhS7=>?_)
 · rintro⟨F,G,b7,O,⟨L,rc⟩,⟨J,K⟩⟩
   refine Cl C ?_ ?_;exact Aa 2 (λq=>λ_=>Ar [2,3,4,5,6,7] C<|BL hS17 (q,G,b7,O,(L,rc),(J,K)) lE (λw f D=>D.perm (List.perm_middle (l₁:=[_]))));refine Cl C ?_ ?_;exact Aa 2 (λq=>λ_=>Ar [2,3,4,5,6,7] C<|BL hS47 (F,q,b7,O,(L,rc),(J,K)) lE (λw f D=>D.perm (List.perm_middle (l₁:=[_]))));exact Ak C<|Aa 2 (λq=>λ_=>Ar [2,3,4,5,6,7] C<|BL hS67 (F,G,q,O,(L,rc),(J,K)) lE (λw f D=>D.perm (List.perm_middle (l₁:=[_]))))
 refine EY pG (L3 b1 b2 b3 b4 b5 b6 [6]) (EE b1 b2 b3 b4 b5 b6 [6]) (λ_=>[]) (f17 [6]) ?_ (λhS6=>?_)
 · rintro⟨F,G,b7,O,⟨L,rc⟩,⟨J,K⟩⟩
   refine Cl C ?_ ?_;exact Aa 2 (λq=>λ_=>Ar [2,3,4,5,6,7] C<|BL hS16 (q,G,b7,O,(L,rc),(J,K)) lE (λw f D=>D.perm (List.perm_middle (l₁:=[_]))));refine Cl C ?_ ?_;exact Aa 2 (λq=>λ_=>Ar [2,3,4,5,6,7] C<|BL hS46 (F,q,b7,O,(L,rc),(J,K)) lE (λw f D=>D.perm (List.perm_middle (l₁:=[_]))));exact Ak C<|Aa 2 (λq=>λ_=>Ar [2,3,4,5,6,7] C<|BL hS67 (F,G,b7,q,(L,rc),(J,K)) lE (λw f D=>D))
 refine EY yW (L3 b1 b2 b3 b4 b5 b6 []) (EE b1 b2 b3 b4 b5 b6 []) (λ_=>[]) (f17 []) ?_ (λhS=>?_)
 · rintro⟨F,G,b7,O,⟨L,rc⟩,⟨J,K⟩⟩
   refine Cl C ?_ ?_;exact Aa 2 (λq=>λ_=>Ar [1,2,3,4,5,6] C<|BL hS1 (q,G,b7,O,(L,rc),(J,K)) lE (λw f D=>D));refine Cl C ?_ ?_;exact Aa 2 (λq=>λ_=>Ar [1,2,3,4,5,6] C<|BL hS4 (F,q,b7,O,(L,rc),(J,K)) lE (λw f D=>D));refine Cl C ?_ ?_;exact Aa 2 (λq=>λ_=>Ar [1,2,3,4,5,6] C<|BL hS6 (F,G,q,O,(L,rc),(J,K)) lE (λw f D=>D));exact Ak C<|Aa 2 (λq=>λ_=>Ar [1,2,3,4,5,6] C<|BL hS7 (F,G,b7,q,(L,rc),(J,K)) lE (λw f D=>D))
 exact BL hS (0,0,0,0,(none,0),(none,0)) lE (λw f D=>D);rintro⟨b7,O,⟨L,rc⟩,⟨J,K⟩⟩ -;dsimp only;refine Aa 2 (λ_=>BI (λw f=>BS w f (AQ.take 0) []) (λ_ _ _=>C) BS.mono<|Ae 6 [8,8,8] (λb31=>y<|y<|y<|λb32=>λ_=>Gy (n0:=0) (oa:=none) (oc:=0) (xs:=[]) 1 0 5 [qI,qI,qI] [[43],[45],[42],[100,105,118],[109,111,100]] (eC CJ C C) C C C C C C (λw f _ _ D=>⟨qN,⟨qN,⟨qN,tQ⟩⟩⟩) λa1 c1 xs1=>Ae 10 [8,8] (λb33=>y<|y<|λb34=>λ_=>Gy (n0:=5) (oa:=a1) (oc:=c1) (xs:=xs1) 1 0 6 [qI,qI] [[110,101,103]] (eC CJ C C) C C C C C C (λw f _ _ D=>⟨qN,⟨qN,tQ⟩⟩) λa2 c2 xs2=>Ae 11 [8,8,5] (λb35=>y<|y<|y<|λb36=>λ_=>Gy (n0:=6) (oa:=a2) (oc:=c2) (xs:=xs2) 1 0 9 [qI,qI,qB] [[60],[60,61],[61]] (eC CJ C C) C C C C C C (λw f _ _ D=>⟨qN,⟨qN,⟨qN,tQ⟩⟩⟩) λa3 c3 xs3=>Ae 11 [7,7,7] (λb37=>y<|y<|y<|λb38=>λ_=>Gy (n0:=9) (oa:=a3) (oc:=c3) (xs:=xs3) 1 0 13 [qF,qF,qF] [[102,43],[102,45],[102,42],[102,47]] (eC CJ C C) C C C C C C (λw f _ _ D=>⟨qN,⟨qN,⟨qN,tQ⟩⟩⟩) λa4 c4 xs4=>?_)))));refine Ae 10 [7,7] (λb39=>y<|y<|λb40=>λ_=>Gy (n0:=13) (oa:=a4) (oc:=c4) (xs:=xs4) 1 0 15 [qF,qF] [[102,115,113,114,116],[102,110,101,103]] (eC CJ C C) C C C C C C (λw f _ _ D=>⟨qN,⟨qN,tQ⟩⟩) λa5 c5 xs5=>Ae 11 [7,7,5] (λb41=>y<|y<|y<|λb42=>λ_=>Gy (n0:=15) (oa:=a5) (oc:=c5) (xs:=xs5) 1 0 18 [qF,qF,qB] [[102,60],[102,61],[102,97,104,101,97,100]] (eC CJ C C) C C C C C C (λw f _ _ D=>⟨qN,⟨qN,⟨qN,tQ⟩⟩⟩) λa6 c6 xs6=>Ae 10 [8,7] (λb43=>y<|y<|λb44=>λ_=>Gy (n0:=18) (oa:=a6) (oc:=c6) (xs:=xs6) 1 0 19 [qI,qF] [[105,116,111,102]] (eC CJ C C) C C C C C C (λw f _ _ D=>⟨qN,⟨qN,tQ⟩⟩) λa7 c7 xs7=>Ae 10 [7,8] (λb45=>y<|y<|λb46=>λ_=>Gy (n0:=19) (oa:=a7) (oc:=c7) (xs:=xs7) 1 0 20 [qF,qI] [[102,116,111,105]] (eC CJ C C) C C C C C C (λw f _ _ D=>⟨qN,⟨qN,tQ⟩⟩) λa8 c8 xs8=>Ae 10 [7,6] (λb47=>y<|y<|λb48=>λ_=>Gy (n0:=20) (oa:=a8) (oc:=c8) (xs:=xs8) 1 0 21 [qF,qS] [[102,98,105,116,115]] (eC CJ C C) C C C C C C (λw f _ _ D=>⟨qN,⟨qN,tQ⟩⟩) λa9 c9 xs9=>?_)))))
 refine Ae 9 [7] (λb49=>y<|λb50=>λ_=>Gy (n0:=21) (oa:=a9) (oc:=c9) (xs:=xs9) 1 0 23 [qF] [[110,97,110],[105,110,102]] (eC CJ C C) C C C C C C (λw f _ _ D=>⟨qN,tQ⟩) λa10 c10 xs10=>Ae 11 [6,6,6] (λb51=>y<|y<|y<|λb52=>λ_=>Gy (n0:=23) (oa:=a10) (oc:=c10) (xs:=xs10) 1 0 24 [qS,qS,qS] [[99,97,116]] (eC CJ C C) C C C C C C (λw f _ _ D=>⟨qN,⟨qN,⟨qN,tQ⟩⟩⟩) λa11 c11 xs11=>Ae 10 [6,8] (λb53=>y<|y<|λb54=>λ_=>Gy (n0:=24) (oa:=a11) (oc:=c11) (xs:=xs11) 1 0 27 [qS,qI] [[108,101,110],[111,114,100],[97,116,111,105]] (eC CJ C C) C C C C C C (λw f _ _ D=>⟨qN,⟨qN,tQ⟩⟩) λa12 c12 xs12=>Ae 12 [6,8,8,6] (λb55=>y<|y<|y<|y<|λb56=>λ_=>Gy (n0:=27) (oa:=a12) (oc:=c12) (xs:=xs12) 1 0 28 [qS,qI,qI,qS] [[115,117,98]] (eC CJ C C) C C C C C C (λw f _ _ D=>⟨qN,⟨qN,⟨qN,⟨qN,tQ⟩⟩⟩⟩) λa13 c13 xs13=>Ae 11 [6,6,5] (λb57=>y<|y<|y<|λb58=>λ_=>Gy (n0:=28) (oa:=a13) (oc:=c13) (xs:=xs13) 1 0 30 [qS,qS,qB] [[115,61],[115,60]] (eC CJ C C) C C C C C C (λw f _ _ D=>⟨qN,⟨qN,⟨qN,tQ⟩⟩⟩) λa14 c14 xs14=>?_)))));refine Ae 10 [8,6] (λb59=>y<|y<|λb60=>λ_=>Gy (n0:=30) (oa:=a14) (oc:=c14) (xs:=xs14) 1 0 32 [qI,qS] [[105,116,111,97],[99,104,114]] (eC CJ C C) C C C C C C (λw f _ _ D=>⟨qN,⟨qN,tQ⟩⟩) λa15 c15 xs15=>Ae 10 [6,4] (λb61=>y<|y<|λb62=>λ_=>Gy (n0:=32) (oa:=a15) (oc:=c15) (xs:=xs15) 1 0 33 [qS,qU] [[112,114,105,110,116]] (eC CJ C C) C C C C C C (λw f _ _ D=>⟨qN,⟨qN,tQ⟩⟩) λa16 c16 xs16=>Ae 10 [4,6] (λb63=>y<|y<|λb64=>λ_=>Gy (n0:=33) (oa:=a16) (oc:=c16) (xs:=xs16) 1 0 34 [qU,qS] [[114,101,97,100]] (eC CJ C C) C C C C C C (λw f _ _ D=>⟨qN,⟨qN,tQ⟩⟩) λa17 c17 xs17=>Ae 10 [3,2] (λb65=>y<|y<|λb66=>λ_=>Gy (n0:=34) (oa:=a17) (oc:=c17) (xs:=xs17) 1 0 35 [qV,(qR L rc)] [[114,101,102]] (eC CJ C C) C C C C C C (λw f _ _ D=>⟨qN,⟨D.f2,tQ⟩⟩) λa18 c18 xs18=>Ae 10 [2,3] (λb67=>y<|y<|λb68=>λ_=>Gy (n0:=35) (oa:=a18) (oc:=c18) (xs:=xs18) 1 0 36 [(qR L rc),qV] [[103,101,116]] (eC CJ C C) C C C C C C (λw f _ _ D=>⟨D.f2,⟨qN,tQ⟩⟩) λa19 c19 xs19=>?_)))))
 exact Ae 11 [2,3,4] (λb69=>y<|y<|y<|λb70=>λ_=>Gy (n0:=36) (oa:=a19) (oc:=c19) (xs:=xs19) 1 0 37 [(qR L rc),qV,qU] [[115,101,116]] (eC CJ C C) C C C C C C (λw f _ _ D=>⟨D.f2,⟨qN,⟨qN,tQ⟩⟩⟩) λa20 c20 xs20=>Ae 10 [3,1] (λb71=>y<|y<|λb72=>λ_=>Gy (n0:=37) (oa:=a20) (oc:=c20) (xs:=xs20) 1 0 38 [qV,(qP J K)] [[110,101,119]] (eC CJ C C) C C C C C C (λw f _ _ D=>⟨qN,⟨D.f1,tQ⟩⟩) λa21 c21 xs21=>Ae 10 [1,3] (λb73=>y<|y<|λb74=>λ_=>Gy (n0:=38) (oa:=a21) (oc:=c21) (xs:=xs21) 1 0 39 [(qP J K),qV] [[108,111,97,100]] (eC CJ C C) C C C C C C (λw f _ _ D=>⟨D.f1,⟨qN,tQ⟩⟩) λa22 c22 xs22=>Ae 11 [1,3,4] (λb75=>y<|y<|y<|λb76=>λ_=>Gy (n0:=39) (oa:=a22) (oc:=c22) (xs:=xs22) 1 0 40 [(qP J K),qV,qU] [[115,116,111,114,101]] (eC CJ C C) C C C C C C (λw f _ _ D=>⟨D.f1,⟨qN,⟨qN,tQ⟩⟩⟩) λa23 c23 xs23=>Aa 4 (λ_=>A5 (Cb C C) (λw f D=>let ⟨f2,hE,hF⟩:=Hy.done (l:=AQ) D.res D.f0 D.exm (λb hb=>⟨(D.mi b hb).2.2.elim id (λh=>h.elim),(D.mi b hb).2.1⟩) dC;⟨(a23,c23),f2,C,tQ,hE,⟨hF,tQ⟩⟩))))))
abbrev FrT(n:Nat):Prop:=∀(w:wO)(f:Fq)(_:Vl w f)(t:T1)(a:oA)(c:Nat),t.kids.size<n→t.kids.size≤100000→Al w f t.kids a c→AX prog 8 #[tV t a c] w (AU (α:=oA×Nat) (λy=>tV t y.1 y.2) (λ_=>True) (λy=>[λw f=>Al w f t.kids y.1 y.2]) w f)
theorem Ur(w:wO)(f:Fq)(hv:Vl w f)(n:Nat)(Z:FrT n)(t:T1)(a:oA)(c:Nat)(hm:t.kids.size<n+1)(hsz:t.kids.size≤100000)(hT:Al w f t.kids a c) :
   AX prog 8 #[tV t a c] w (AU (α:=oA×Nat) (λy=>tV t y.1 y.2) (λ_=>True) (λy=>[λw f=>Al w f t.kids y.1 y.2]) w f):=by
 have hkl:=GW t.kids;refine Ed [λw f=>Al w f t.kids a c] func8 C C C (Be hv ⟨hT,tQ⟩ ⟨Al.mono,tQ⟩)<|Ae 26 [1,1,1,0] (λb1=>λb2=>y<|y<|y<|λb3=>y<|λ_=>LY 34 4 ?_);refine DK (α:=Nat×Ty×lV×oA×Nat) (λx=>t.kids.len-x.1) (λx=>x.1≤t.kids.len∧x.2.1.len=x.1∧x.2.1.app (Yl x.1 t.kids)=t.kids) (λx=>(E4 1 (.pointer (some ⟨b1,0,none⟩)) 2 (.pointer (some ⟨b2,0,none⟩)) 3 (.pointer (some ⟨b3,0,none⟩)) 4 (.int .i64 (x.1:Int)))) (λx=>X0 w f) (λx=>[⟨b3,[.int .i64 t.op,.int .i64 t.num,S t.tx,.slice x.2.2.2.1 x.1 x.2.2.2.2],34,true⟩,⟨b2,[.int .i64 0,.int .i64 0,.string ⟨#[]⟩,.slice none 0 0],34,true⟩,⟨b1,tC t a c,29,true⟩]) (λx=>[⟨34,4,x.2.2.2.1,x.2.2.2.2,x.1,x.2.2.1⟩]) (λx=>[]) (λx=>[λw f=>Al w f t.kids a c,λw f=>Cr w f x.2.1 x.2.2.1]) ((0,.nil,[],none,0)) ⟨Nat.zero_le _,C,C⟩ lE (λw f d=>(d.more (B':=[]) (F':=[λw f=>Cr w f .nil []]) nE (AR.mem ⟨C,tQ⟩) (Au.mem ⟨Cr.mono,tQ⟩)).less (sK (sK (sK sZ))) sR nE (mR [1,0])) ?_;rintro⟨i,F,xs,oa,oc⟩ ⟨hi,G,h⟩;dsimp only at hi G h ⊢;refine Ae 10 [2] (y<|λ_=>?_)
 · refine Ap 16 C C (λJ=>?_) (λJ=>?_)
   refine Aa 5 (λ_=>?_);have K:i<t.kids.len:=by have:=dT J;omega
   obtain⟨t2,D⟩:=II K;have hsz2:=GY D;refine Hh (α:=Nat×Nat×oA×Nat) (λx=>a=some ⟨x.1,x.2.1,none⟩) (λx=>[⟨x.1,x.2.1+i*4,tC t2 x.2.2.1 x.2.2.2⟩]) (λx=>[λw f=>Al w f t2.kids x.2.2.1 x.2.2.2]) (λw f d=>let ⟨b,off,ka,kc,J,h2,h3⟩:=Al.nth d.f0 D;⟨(b,off,ka,kc),J,(oE h2),AR.mem ⟨h3,tQ⟩⟩) (λx=>Au.mem ⟨Al.mono,tQ⟩) ?_;rintro⟨eb,eo,ka,kc⟩ rfl;refine Cq [1,2] Aj (rd [0,2,3,4,5,6] (.br 1 (.br 7 (.br 8 (.br 9 (.rd 10 (.br 11 .fin .fin)) .fin) .fin) .fin) (.br 7 (.br 1 (.br 8 (.br 9 (.rd 10 (.br 11 .fin .fin)) .fin) .fin) (.br 8 (.br 1 (.br 9 (.rd 10 (.br 11 .fin .fin)) .fin) .fin) .fin)) .fin))) C kR<|By 6 [1,100,0] (y<|And.intro oM<|y2<|λ_=>Cl C ?_ ?_);refine Ae 2 [0] (y<|λ_=>Ar [1,2] C<|Ak C<|CR C C (eC cB C C) (λw f d=>Z w f d.vl t2 ka kc oM oM d.f0) (λx=>⟨Al.mono,tQ⟩) ?_);rintro⟨L,O⟩ -;dsimp only;refine Aa 1 (λ_=>Ar [1,2] C<|Ak C<|Aa 2 (λb4=>λ_=>?_))
   rotate_left
   refine Ak C<|CR C C (eC cB C C) (λw f d=>Z w f d.vl t2 ka kc oM oM d.f0) (λx=>⟨Al.mono,tQ⟩) ?_;rintro⟨L,O⟩ -;dsimp only;refine Aa 1 (λ_=>Ar [1,2] C<|Cl C ?_ ?_);refine Ae 2 [0] (y<|λ_=>Ar [1,2] C<|Ak C<|Aa 2 (λb4=>λ_=>?_))
   rotate_left
   refine Ak C<|Aa 2 (λb4=>λ_=>Ar [2,3] C<|Ak C<|Ae 2 [1] (y<|λ_=>?_))
   rotate_left
   refine Aa 3 (λ_=>Df<|Ae 9 [0,1] (y<|y<|λ_=>?_));obtain rfl:i=t.kids.len:=by have:=dF J;omega
   have Q:F=t.kids:=by rw[MJ (Nat.le_refl _),Ty.app_nil] at h;exact h
   exact A5 (λw f d=>Ao C (Ab C P0 d.k1 C)) (λw f d=>let ⟨f2,U,hF⟩:=Ni d d.f1;⟨(oa,oc),f2,C,tQ,U.exm,⟨Q▸hF,tQ⟩⟩)
   all_goals
     refine Ar [2,3] C<|Ak C<|Dd 0 0 C C qap32 C C C C C C C C (λ_ _=>C) oM oM λW Y=>Aa 1 (λ_=>Ar [2,3] C<|Bf 1 (λ_=>Ak C<|Ae 2 [1] (y<|λ_=>Ar [2,3] C<|BG ?_)));exact Aa 7 (And.intro ⟨oM,oM⟩<|λ_=>Ce ((i+1,F.snoc t2,xs++tC t2 L O,W,Y)) (show t.kids.len-(i+1)<t.kids.len-i by omega) ⟨show i+1≤_ by omega,by show (F.snoc t2).len=i+1;rw[Ty.len_snoc,G],by show (F.snoc t2).app (Yl (i+1) t.kids)=t.kids;rw[Ty.snoc_app,← J2 D];exact h⟩ lE (λw f d=>⟨_,(d.more (B':=[]) (F':=[λw f=>Cr w f (F.snoc t2) (xs++tC t2 L O)]) nE (AR.mem ⟨Cr.snoc d.f0 d.f3,tQ⟩) (Au.mem ⟨Cr.mono,tQ⟩)).less (sD (sK (sK (sK sZ)))) sR nE (mR [3,0])⟩))

theorem qG:∀n,FrT n
 |0=>λw f d t a c h=>by omega
 |n+1=>λw f d t a c D F G=>Ur w f d n (qG n) t a c D F G
abbrev SaT(n:Nat):Prop:=∀(w:wO)(f:Fq)(_:Vl w f)(t:T1)(a:oA)(c:Nat)(a2:oA)(c2:Nat),t.kids.size<n→t.kids.size≤100000→Al w f t.kids a c→Al w f t.kids a2 c2→AX prog 7 #[tV t a c,tV t a2 c2] w (AU (α:=Unit) (λ_=>.bool true) (λ_=>True) (λ_=>[]) w f)
theorem Ya(w:wO)(f:Fq)(D:Vl w f)(m:Int)(a:oA)(c:Nat)(a2:oA)(c2:Nat) :
   AX prog 7 #[tV (.var m) a c,tV (.var m) a2 c2] w (AU (α:=Unit) (λ_=>.bool true) (λ_=>True) (λ_=>[]) w f):=by
 refine Ed [] func7 C C C (Be D tQ tQ)<|Ae 16 [1,0] (λb1=>λb2=>y<|y<|λ_=>BN C C (λw f d=>eM qun4 C C C)<|Ae 13 [1,1,0] (y<|y<|y<|λ_=>Ap 25 C C (λh=>?_) (λh=>?_)));simp at h;exact Ae 41 [1,1] (y<|y<|λ_=>A5 (Cb C C) (λw f d=>⟨(),f,C,tQ,d.exm,tQ⟩))
theorem XD(w:wO)(f:Fq)(U:Vl w f)(n:Nat)(W:SaT n)(tx:lU)(k:Ty)(a:oA)(c:Nat)(a2:oA)(c2:Nat)(hm:k.size<n+1)(Y:k.size≤100000)(Z:Al w f k a c)(hU:Al w f k a2 c2) :
   AX prog 7 #[tV (.con tx k) a c,tV (.con tx k) a2 c2] w (AU (α:=Unit) (λ_=>.bool true) (λ_=>True) (λ_=>[]) w f):=by
 have hkl:=GW k;refine Ed [λw f=>Al w f k a c,λw f=>Al w f k a2 c2] func7 C C C (Be U ⟨Z,hU,tQ⟩ ⟨Al.mono,Al.mono,tQ⟩)<|Ae 16 [1,0] (λb1=>λb2=>y<|y<|λ_=>BN C C (λw f d=>eM qun4 C C C)<|Ae 23 [1,1,1,0] (y<|y<|y<|y<|λ_=>Ap 35 C C (λD=>?_) (λD=>?_)));simp at D;refine Ae 12 [1,0] (y<|y<|λ_=>Ap 45 C C (λF=>?_) (λF=>?_));simp at F;refine Ae 21 [1] (y<|λ_=>?_);refine DK (α:=Nat) (λi=>k.len-i) (λi=>i≤k.len) (λi=>(E3 2 (.pointer (some ⟨b1,0,none⟩)) 3 (.pointer (some ⟨b2,0,none⟩)) 5 (.int .i64 (i:Int)))) (λi=>X0 w f) (λi=>[⟨b2,tC (.con tx k) a2 c2,34,true⟩,⟨b1,tC (.con tx k) a c,34,true⟩]) (λi=>[]) (λi=>[]) (λi=>[λw f=>Al w f k a c,λw f=>Al w f k a2 c2]) (0) (Nat.zero_le _) lE (λw f d=>d.less (sK (sK sZ)) sR nE (mR [0,1])) ?_;rintro i hi;refine Ae 10 [1] (y<|λ_=>Ap 53 C C (λG=>?_) (λG=>?_));refine Aa 6 (λ_=>?_);have J:i<k.len:=by have K:decide ((i:Int)<(k.len:Int))=true:=G;have:=dT K;omega
 obtain⟨t2,h⟩:=II J;have Q:=GY h;refine Hh (α:=Nat×Nat×oA×Nat) (λx=>a=some ⟨x.1,x.2.1,none⟩) (λx=>[⟨x.1,x.2.1+i*4,tC t2 x.2.2.1 x.2.2.2⟩]) (λx=>[λw f=>Al w f t2.kids x.2.2.1 x.2.2.2]) (λw f d=>let ⟨b,off,ka,kc,D,F,G⟩:=Al.nth d.f0 h;⟨(b,off,ka,kc),D,(oE F),AR.mem ⟨G,tQ⟩⟩) (λx=>Au.mem ⟨Al.mono,tQ⟩) ?_;rintro⟨eb,eo,ka,kc⟩ rfl;refine Hh (α:=Nat×Nat×oA×Nat) (λx=>a2=some ⟨x.1,x.2.1,none⟩) (λx=>[⟨x.1,x.2.1+i*4,tC t2 x.2.2.1 x.2.2.2⟩]) (λx=>[λw f=>Al w f t2.kids x.2.2.1 x.2.2.2]) (λw f d=>let ⟨b,off,ka,kc,D,F,G⟩:=Al.nth d.f2 h;⟨(b,off,ka,kc),D,(oE F),AR.mem ⟨G,tQ⟩⟩) (λx=>Au.mem ⟨Al.mono,tQ⟩) ?_;rintro⟨eb2,eo2,L,O⟩ rfl;exact Cq [0,1] Aj (rd [0,1,2,3,4,5,6,7,8,9] (.br 10 (.rd 11 .fin) .fin)) C kR<|By 10 [1,101,0,0,100,0] (y<|And.intro (by first|omega|(show (0:Int)≤(i:Int)∧(i:Int)<(k.len:Int);omega))<|y2<|y<|And.intro (by first|omega|(show (0:Int)≤(i:Int)∧(i:Int)<(k.len:Int);omega))<|y2<|λ_=>Ak C<|BO C C (eC pA C C) (λw f d=>W w f d.vl t2 ka kc L O oM oM d.f1 d.f0)<|Aa 1 (λ_=>Ar [0,1] C<|Bf 1 (λ_=>BG<|Aa 10 (And.intro ⟨oM,oM⟩<|λ_=>Ce (i+1) (show k.len-(i+1)<k.len-i by omega) (show i+1≤_ by omega) lE (λw f d=>⟨_,d.less (sK (sK sZ)) sR nE (mR [2,3])⟩)))));exact Aa 3 (λ_=>Df<|Aa 8 (λ_=>A5 (Cb C C) (λw f d=>⟨(),f,C,tQ,d.exm,tQ⟩)))
theorem nT:∀n,SaT n
 |0=>λw f d t a c a2 c2 h=>by omega
 |n+1=>λw f d t a c a2 c2 D F G J=>by
   cases t with
   |var m=>exact Ya w f d m a c a2 c2
   |con tx k=>exact XD w f d n (nT n) tx k a c a2 c2 D F G J
theorem Oq(w:wO)(f:Fq)(F:Vl w f)(G:Dm w f)(J:Iu w f)(src:lU)(h:WfS (Ci src).1) :
   AX prog 13 #[S src] w (InV (Kb src) w f):=by
 refine Ed [λw f=>Dm w f,λw f=>Iu w f] func13 C C C (Be F ⟨G,J,tQ⟩ ⟨Dm.mono,Iu.mono,tQ⟩)<|Aa 10 (λb1=>λ_=>CR C C (eC pT C C) (λw f d=>T4 w f d.vl d.f0 src) (λ_=>⟨Bc.mono,tQ⟩) ?_);rintro⟨K,nc⟩ -;dsimp only;refine Ae 17 [0] (λb2=>y<|λ_=>Ap 15 C C (λD=>?_) (λD=>?_));exact Aa 2 (λ_=>Cq [0] Aj (rd [0,1,2] (.br 3 (.rd 4 .fin) .fin)) C kR<|By 3 [0] (y<|λ_=>Ak C<|Ae 2 [1] (y<|λ_=>Ar [0] C<|Bf 1 (λ_=>BG<|Aa 3 (λ_=>A5 (λw f d=>Dy C (Af C) (Ab C Dx d.k1 C) (Af C)) (λw f d=>(by rw[cO (by simpa using D)];exact⟨(none,0),f,C,tQ,d.exm,⟨Nat.zero_le _,.inl C⟩,tQ⟩)))))));refine Aa 6 (λ_=>CR C C (eC rS C C) (λw f d=>dW w f d.vl d.f2 _ K nc h.1 h.2.1 h.2.2 d.f0) (λ_=>⟨Vc.mono,tQ⟩) ?_);rintro⟨a,c⟩ -;exact Ae 9 [1] (y<|λ_=>A5 (λw f d=>Dy C (Af C) (Ab C Dx d.k1 C) (Af C)) (λw f d=>(by rw[dO (by simpa using D)];exact⟨(a,c),f,C,tQ,d.exm,d.f0,tQ⟩)))
theorem Ta(w:wO)(f:Fq)(d:Vl w f)(D:Dm w f)(F:Iu w f):AX prog 13 #[S Tp] w (AU (α:=oA×Nat) (λx=>.tuple #[.slice x.1 2 x.2,.agg #[iV 0,iV 0],iV 0]) (λ_=>True) (λx=>[λw f=>Vc w f tE x.1 x.2]) w f):=by
 have h:=Oq w f d D F Tp wfA;rw[wK] at h;exact h
theorem SF(w:wO)(f:Fq)(d:Vl w f)(D:Dm w f)(F:Iu w f):AX prog 13 #[S S9] w (AU (α:=oA×Nat) (λx=>.tuple #[.slice x.1 0 x.2,.agg #[iV 1,iV 10],iV 11]) (λ_=>True) (λx=>[λw f=>Vc w f ([]:List (lU×lU)) x.1 x.2]) w f):=by
 have h:=Oq w f d D F S9 wfB;rw[sJ] at h;exact h
theorem Mv(w:wO)(f:Fq)(h:Vl w f)(D:Dm w f)(F:Iu w f) :
   AX prog 4 #[] w (AU (α:=Unit) (λ_=>.bool true) (λ_=>True) (λ_=>[]) w f):=by
 refine Ed [λw f=>Dm w f,λw f=>Iu w f] func4 C C C (Be h ⟨D,F,tQ⟩ ⟨Dm.mono,Iu.mono,tQ⟩)<|Aa 7 (λ_=>CR C C (eC cG C C) (λw f d=>Ta w f d.vl d.f0 d.f1) (λ_=>⟨Vc.mono,tQ⟩) ?_);rintro⟨G,L⟩ -;refine Hh (α:=Nat×Nat) (λx=>G=some ⟨x.1,x.2,none⟩) (λx=>[⟨x.1,x.2,bC tE⟩]) (λx=>[]) (λw f d=>let ⟨x,J,K⟩:=Vc.opn d.f0 (List.cons_ne_nil _ _);⟨x,J,oE K,nE⟩) (λx=>Au.mem tQ) ?_;rintro⟨O,Q⟩ rfl;refine Ae 12 [0] (λb1=>y<|λ_=>CR C C (eC cG C C) (λw f d=>SF w f d.vl d.f1 d.f2) (λ_=>⟨Vc.mono,tQ⟩) ?_);rintro⟨U,dc⟩ -;exact Ae 40 [0,100,1,100,3,0] (λb2=>y<|aI dC<|y2<|aI dC<|y2<|y<|λ_=>BN C C (λw f d=>ZB vD C C)<|Aa 5 (λ_=>A5 (Cb C C) (λw f d=>⟨(),f,C,tQ,d.exm,tQ⟩)))
end Go.Proofs.YtnojaendcldjpaaGreatDoor
namespace Go.SP
open Go.SW Go.RowKit
theorem Ms:∀(w D rest:lU),(∀c∈w,c≠32)→(∀c∈D,c≠32)→(w++[32]).isPrefixOf (D++32::rest)=(w==D)
 | [],[],rest,_,_=>by simp[List.isPrefixOf]
 | [],d::D,rest,_,G=>by
   have:=G d (.head _);simp[List.isPrefixOf,this.symm]
 |c::w,[],rest,h,_=>by
   have:=h c (.head _);simp[List.isPrefixOf,this]
 |c::w,d::D,rest,h,G=>by
   have K:=Ms w D rest (λx J=>h x (.tail _ J)) (λx J=>G x (.tail _ J));simp only[List.cons_append,List.isPrefixOf,K];rw[List.cons_beq_cons]
theorem KF(w:lU):∀(d rest:lU),(∀c∈d,c≠32)→DE (d++32::rest) (32::w)=DE (32::rest) (32::w)
 | [],rest,_=>rfl
 |c::d,rest,h=>by
   have D:=h c (.head _);rw[List.cons_append]
   conv=>lhs;unfold DE
   rw[KF w d rest (λx G=>h x (.tail _ G))];simp[List.isPrefixOf,D.symm]
theorem QR(w d rest:lU)(h:∀c∈w,c≠32)(D:∀c∈d,c≠32):DE (32::(d++32::rest)) (32::(w++[32]))=(w==d||DE (32::rest) (32::(w++[32]))):=by
 conv=>lhs;unfold DE
 rw[KF _ d rest D]
 have:(32::(w++[32])).isPrefixOf (32::(d++32::rest))=(w==d):=by
   simp only[List.isPrefixOf,beq_self_eq_true,Bool.true_and];exact Ms w d rest h D
 rw[this]
def SY:List lU→lU
 | []=>[32]
 |w::ws=>32::(w++SY ws)
theorem V4:∀ws,∃r,SY ws=32::r
 | []=>⟨_,C⟩
 |_::_=>⟨_,C⟩
theorem HW(w:lU)(h:∀c∈w,c≠32):∀ws:List lU,(∀x∈ws,∀c∈x,c≠32)→DE (SY ws) (32::(w++[32]))=ws.contains w
 | [],_=>by
   have:(w++[32]).isPrefixOf []=false:=by cases w <;> rfl
   simp[SY,DE,List.isPrefixOf,this]
 |x::ws,d=>by
   obtain⟨r,D⟩:=V4 ws;have G:=HW w h ws (λy J=>d y (.tail _ J));rw[D] at G;rw[SY,D,QR w x r h (d x (.head _)),G,List.contains_cons]
theorem yS{w:lU}(h:∀c∈w,c≠32):My w=OU.contains w:=by
 have:=HW w h OU dC;rw[← this];rfl
theorem bltE{w:lU}(h:∀c∈w,c≠32):Rj w=jC.contains w:=by
 have:=HW w h jC dC;rw[← this];rfl
def Yx(t:Aq):Prop:=t.k=5→t.tx≠[]∧∀c∈t.tx,c≠32
variable {nm:Int}{ot toks:List Aq}{F:Nat}{p1:Ps}{src:lU}
theorem Zj{w:lU}{k:Int}{tx:lU}(h:D9 w=some (k,nm,tx)):k=5→∀c∈tx,c≠32:=by
 unfold D9 at h
 split at h
 · cases h;intro h;cases h
 · split at h
   · cases h;intro h;cases h
   · split at h
     · cases h
     · split at h
       · cases h;intro h;cases h
       · split at h
         · rename_i D
           cases h
           intro _ c J d;simp only[Bool.and_eq_true] at D;have G:=D.2;rw[GG,List.all_eq_true] at G;have K:=G c J;subst d;exact absurd K dC
         · cases h
theorem YT{p:Ps}{l r:lU}(h:Dw F p l=.ok (ot,r,p1)):∀t∈ot,t.k=5→∀c∈t.tx,c≠32:=by
 cases l with
 |nil=>cases h
 |cons c r =>
   rw[D2] at h
   split at h
   · cases h;simp
   · split at h
     · simp only[Except.ok.injEq,Prod.mk.injEq] at h;rw[← h.1];simp
     · split at h
       · cases h;simp
       · split at h
         · cases h;simp
         · split at h
           · split at h
             · cases h
             · cases h
               simp
           · split at h
             · cases h
             · rename_i k nm tx hw
               simp only[Except.ok.injEq,Prod.mk.injEq] at h;rw[← h.1];simp only[List.mem_singleton,forall_eq];exact Zj hw
theorem S7:∀(n:Nat)(p:Ps)(l:lU)(toks:List Aq),FU F n p l=.ok toks→∀t∈toks,t.k=5→∀c∈t.tx,c≠32
 |n,p,[],toks,h=>by rw[Hz] at h;cases h;simp
 |0,p,c::l,toks,h=>by cases h
 |n+1,p,c::l,toks,h=>by
   rw[Gv] at h
   split at h
   · cases h
   · rename_i t D G J
     split at h
     · cases h
     · rename_i K L
       cases h
       intro t d;rcases List.mem_append.1 d with d|d
       · exact YT J t d
       · exact S7 n G D K L t d
theorem jA(h:EG src=.ok toks):∀t∈toks,Yx t:=λt d D=>by
 refine⟨((Nn h).2 t d).1 D,?_⟩;unfold EG at h
 split at h
 · cases h
 · split at h
   · cases h
   · rename_i l G
     cases h
     exact S7 _ _ _ _ G t d D
theorem Kg{t:Aq}(h:Yx t):t.isVar=t.rv:=by
 unfold Aq.isVar Aq.rv
 cases d:t.k==5 with
 |false=>rfl
 |true =>
   obtain⟨D,G⟩:=h (eq_of_beq d);rw[yS G]
   have:(((Ys t.tx).toNat:Int) != 39)=!(t.tx.take 1==[39]):=by
     cases J:t.tx with
     |nil=>exact absurd J D
     |cons c r =>
       show ((c.toNat:Int) != 39)=!([c]==[39]);have:∀n:Fin 256,((((UInt8.ofNat n.val).toNat:Nat):Int) != 39)=!([UInt8.ofNat n.val]==[39]):=by decide +kernel
       have:=this ⟨c.toNat,c.toNat_lt⟩;simpa using this
   rw[this]
   cases OU.contains t.tx <;> cases (t.tx==[95]) <;> cases (t.tx.take 1==[39]) <;> rfl
theorem Qz{t:Aq}(h:Yx t):t.isHole=t.rh:=by unfold Aq.isHole Aq.rh Aq.isWord;rw[Kg h]
theorem eB{t:Aq}(h:Yx t):t.isTypeName=t.rn:=by
 unfold Aq.isTypeName Aq.rn;rw[Kg h]
 cases d:t.rv with
 |false=>rfl
 |true =>
   have D:t.k=5:=by unfold Aq.rv at d;exact eq_of_beq (Bool.and_eq_true_iff.1 d).1
   rw[bltE (h D).2]
theorem pD{t:Aq}(h:Yx t):t.isTypeVar=t.rt:=by
 unfold Aq.isTypeVar Aq.rt
 cases d:t.k==5 with
 |false=>rfl
 |true =>
   obtain⟨D,-⟩:=h (eq_of_beq d)
   cases G:t.tx with
   |nil=>exact absurd G D
   |cons c r =>
     have:((c.toNat:Int)==39)=([c]==[39]):=by
       have:∀n:Fin 256,((((UInt8.ofNat n.val).toNat:Nat):Int)==39)=([UInt8.ofNat n.val]==[39]):=by decide +kernel
       have:=this ⟨c.toNat,c.toNat_lt⟩;simpa using this
     show (true&&((c.toNat:Int)==39&&_))=(true&&([c]==[39]&&_));rw[this]
def Fo.wk:Fo→Prop
 |.nil=>True
 |.cons t k r=>((k=.nil∨t.k=0)∧Yx t)∧k.wk∧r.wk
theorem Fo.wk_snoc:∀{x:Fo}{t:Aq}{k:Fo},x.wk→((k=.nil∨t.k=0)∧Yx t)→k.wk→(x.snoc t k).wk
 |.nil,t,k,_,h,d=>⟨h,d,tQ⟩
 |.cons a b r,t,k,D,h,d=>⟨D.1,D.2.1,Fo.wk_snoc D.2.2 h d⟩
def stWk:List (Aq×Fo)→Prop
 | []=>True
 |p::s=>(p.1.k=0∧Yx p.1)∧p.2.wk∧stWk s
theorem WD:∀(l:List Aq)(st:List (Aq×Fo))(cur d:Fo),(∀t∈l,Yx t)→stWk st→cur.wk→A7 l st cur=.ok d→d.wk
 | [],[],cur,d,_,_,G,h=>by cases h;exact G
 | [],o::s,cur,d,_,_,_,h=>by
   unfold A7 at h
   split at h <;> cases h
 |k::l,st,cur,d,K,J,G,h=>by
   have L:=K k (.head _);have D:∀t∈l,Yx t:=λt O=>K t (.tail _ O);rw[A7.eq_def] at h;simp only at h
   split at h
   · rename_i Q
     split at h
     · cases h
     · exact WD l ((k,cur)::st) .nil d D ⟨⟨eq_of_beq Q,L⟩,G,J⟩ tQ h
   · split at h
     · cases st with
       |nil=>cases h
       |cons op s =>
         obtain⟨o,p⟩:=op;obtain⟨⟨U,W⟩,Y,Z⟩:=J;exact WD l s (p.snoc o cur) d D Z (Fo.wk_snoc Y ⟨.inr U,W⟩ G) h
     · exact WD l st (cur.snoc k .nil) d D J (Fo.wk_snoc G ⟨.inl C,L⟩ tQ) h
def To{α:Type}:R α→Bool
 |.ok _=>true
 |.error _=>false
section
variable{α β:Type}{t:Aq}{b:Bool}{x:R α}
theorem Tu:To (need t b x)=(b&&To x):=by cases b <;> rfl
end
theorem OH{f:Aq→Fo→R N}{p:Aq→Fo→Bool}:∀l:Fo,(l.all λt k=>To (f t k)=p t k)→To (AL f l)=l.allB p
 |.nil,_=>rfl
 |.cons t k r,h=>by
   have d:=OH r h.2;have D:=h.1;unfold AL;show _=(p t k&&r.allB p);rw[← D,← d]
   cases f t k with
   |error e=>rfl
   |ok a=>cases AL f r <;> rfl
theorem Rb{P:Aq→Fo→Prop}(h:∀t k,((k=.nil∨t.k=0)∧Yx t)→k.wk→P t k):∀l:Fo,l.wk→l.all P
 |.nil,_=>trivial
 |.cons t k r,hw=>⟨h t k hw.1 hw.2.1,Rb h r hw.2.2⟩
abbrev fP(t:Aq)(k:Fo):Prop:=((k=.nil∨t.k=0)∧Yx t)∧k.wk
theorem Z1:∀l:Fo,l.wk→K8 l=WN l
 |.nil,_=>rfl
 |.cons t k r,h=>by show (t.isHole&&K8 r)=(t.rh&&WN r);rw[Qz h.1.2,Z1 r h.2.2]
theorem Pe:∀l:Fo,∃nds,AL JS l=.ok nds
 |.nil=>⟨_,C⟩
 |.cons t k r=>by
   obtain⟨n,d⟩:=Pe r;exact⟨_,by unfold AL;rw[d];rfl⟩
variable {h:Aq}{hk:Fo}
theorem ZD{t:Aq}{l:Fo}(d:t.k=0)(w:lU)(hw:w≠[]):(DB t (.cons h hk l)==w)=h.isWord w:=by
 show ((if (t.k==0&&h.k==5)=true then h.tx else [])==w)=(h.k==5&&h.tx==w);rw[show (t.k==0)=true from beq_iff_eq.2 d]
 cases h.k==5 with
 |true=>rfl
 |false=>cases w with
   |nil=>exact absurd C hw
   |cons _ _=>rfl
theorem pQ{t:Aq}{k:Fo}:S6 t k=FY t k:=by
 cases k with
 |nil=>rfl
 |cons h hk l =>
   show (t.k==0&&(h.k==5&&h.tx==[102,110]))=((if (t.k==0&&h.k==5)=true then h.tx else [])==[102,110])
   cases t.k==0 <;> cases h.k==5 <;> rfl
theorem patE:∀(n:Nat)(t:Aq)(k:Fo),fP t k→To (D7 n t k)=ET n t k
 |0,t,k,_=>rfl
 |n+1,t,k,h=>by
   unfold D7 ET
   by_cases d:t.k=2
   · rw[show (t.k==2)=true from beq_iff_eq.2 d];rfl
   rw[show (t.k==2)=false from beq_eq_false_iff_ne.2 d]
   by_cases J:t.k=4
   · rw[J];rfl
   rw[show (t.k==4)=false from beq_eq_false_iff_ne.2 J]
   by_cases K:t.k=6
   · rw[K];rfl
   rw[show (t.k==6)=false from beq_eq_false_iff_ne.2 K]
   by_cases D:t.k=5
   · rw[show (t.k==5)=true from beq_iff_eq.2 D,show (t.k==3)=false by rw[D];rfl]
     show To (need t t.isHole (JS t k))=t.rh;rw[Tu,Qz h.1.2];exact Bool.and_true _
   rw[show (t.k==5)=false from beq_eq_false_iff_ne.2 D]
   by_cases L:t.k=3
   · rw[L];rfl
   rw[show (t.k==3)=false from beq_eq_false_iff_ne.2 L]
   cases k with
   |nil=>rfl
   |cons c W l =>
     have Q:t.k=0:=h.1.1.elim (λh=>by cases h) id;have O:=OH (f:=D7 n) (p:=ET n) l (Rb (λt k U d=>patE n t k ⟨U,d⟩) l h.2.2.2);simp only[Bool.false_eq_true,if_false];rw[ZD Q _ (by decide)]
     cases F:c.k==6 with
     |true =>
       simp only[if_true];have G:c.isWord [116,117,112,108,101]=false:=by unfold Aq.isWord;rw[show c.k=6 from eq_of_beq F];rfl
       rw[G,← O];unfold need within
       cases AL (D7 n) l <;> cases decide ((1:Int)≤l.len) <;> cases decide ((l.len:Int)≤8) <;> rfl
     |false =>
       simp only[Bool.false_eq_true,if_false,Bool.false_and];rw[← O];unfold need within
       cases AL (D7 n) l <;> cases c.isWord [116,117,112,108,101] <;> cases decide ((2:Int)≤l.len) <;> cases decide ((l.len:Int)≤8) <;> rfl
def Il(seen:List lU):List lU→Option (List lU)
 | []=>some seen
 |x::l=>if seen.contains x then none else Il (x::seen) l
theorem Mh:∀(a b:List lU)(seen:List lU),Il seen (a++b)=(Il seen a).bind λs=>Il s b
 | [],b,seen=>rfl
 |x::a,b,seen=>by
   show (if seen.contains x then none else Il (x::seen) (a++b))=(if seen.contains x then none else Il (x::seen) a).bind _
   split
   · rfl
   · exact Mh a b _
theorem Lp:∀(nd:Nd)(seen:List lU),B1 seen nd=Il seen (D4 nd)
 |.nil,seen=>rfl
 |.cons op ln co tx nm k r,seen=>by
   unfold B1 D4
   cases h:op==22 with
   |true =>
     simp only[if_true,List.cons_append,List.nil_append];unfold Il
     split
     · rename_i d;split at d <;> first|(rename_i D;rw[if_pos D])|cases d
     · rename_i s1 d
       split at d
       · cases d
       · rename_i D
         cases d
         rw[if_neg D,Lp k,Mh]
         cases Il (tx::seen) (D4 k) with
         |none=>rfl
         |some s2=>exact Lp r s2
   |false =>
     simp only[Bool.false_eq_true,if_false,List.nil_append];rw[Lp k,Mh]
     cases Il seen (D4 k) with
     |none=>rfl
     |some s2=>exact Lp r s2
theorem T0:∀(l seen:List lU),(Il seen l).isSome=(CU l&&l.all λx=>!seen.contains x)
 | [],seen=>rfl
 |x::l,seen=>by
   unfold Il CU;have D:=T0 l (x::seen);rw[List.all_cons]
   cases h:seen.contains x with
   |true=>simp
   |false =>
     simp only[Bool.false_eq_true,if_false,Bool.not_false,Bool.true_and];rw[D]
     have F:(l.all λy=>!(x::seen).contains y)=(!l.contains x&&l.all λy=>!seen.contains y):=by
       clear D
       induction l with
       |nil=>rfl
       |cons y l d =>
         rw[List.all_cons,List.all_cons,d,List.contains_cons,List.contains_cons];rw[Bool.beq_comm (a:=y) (b:=x)]
         cases x==y <;> cases seen.contains y <;> cases l.contains x <;> cases (l.all λy=>!seen.contains y) <;> rfl
     rw[F]
     cases CU l <;> cases l.contains x <;> cases (l.all λy=>!seen.contains y) <;> rfl
theorem lW(nd:Nd):(B1 [] nd).isSome=CU (D4 nd):=by
 rw[Lp,T0];have:((D4 nd).all λx=>!([]:List lU).contains x)=true:=by rw[List.all_eq_true];intro x _;rfl
 rw[this,Bool.and_true]
theorem VT{f:Aq→Fo→R N}{q:Aq→Fo→List lU}:∀(l:Fo)(nds:Nd),(l.all λt k=>∀a,f t k=.ok a→D4 a.one=q t k)→AL f l=.ok nds→D4 nds=l.names q
 |.nil,nds,_,h=>by cases h;rfl
 |.cons t k r,nds,d,h=>by
   unfold AL at h
   split at h
   · cases h
   · rename_i a D
     split at h
     · cases h
     · rename_i b F
       cases h
       have G:=d.1 a D;have J:=VT r b d.2 F;show D4 (a.cons b)=q t k++r.names q;rw[← G,← J];exact O7 a.op a.ln a.co a.nm a.tx a.kids b
theorem Y8:∀(n:Nat)(t:Aq)(k:Fo),fP t k→∀a,D7 n t k=.ok a→D4 a.one=Iv n t k
 |0,t,k,_,a,h=>by cases h
 |n+1,t,k,hw,a,h=>by
   unfold D7 at h;unfold Iv
   by_cases D:t.k=2
   · rw[D] at h ⊢;cases h;rfl
   rw[show (t.k==2)=false from beq_eq_false_iff_ne.2 D] at h ⊢
   by_cases J:t.k=4
   · rw[J] at h ⊢;cases h;rfl
   rw[show (t.k==4)=false from beq_eq_false_iff_ne.2 J] at h ⊢
   by_cases K:t.k=6
   · rw[K] at h ⊢;cases h;rfl
   rw[show (t.k==6)=false from beq_eq_false_iff_ne.2 K] at h ⊢
   by_cases F:t.k=5
   · rw[show (t.k==5)=true from beq_iff_eq.2 F] at h ⊢
     rw[show (t.k==3)=false by rw[F];rfl];simp only[Bool.false_eq_true,if_false,if_true] at h ⊢;unfold need at h
     split at h
     · cases h
       unfold Aq.isWord;rw[show (t.k==5)=true from beq_iff_eq.2 F,Bool.true_and]
       cases t.tx==[95] <;> rfl
     · cases h
   rw[show (t.k==5)=false from beq_eq_false_iff_ne.2 F] at h ⊢
   by_cases L:t.k=3
   · rw[L] at h;cases h
   rw[show (t.k==3)=false from beq_eq_false_iff_ne.2 L] at h ⊢;simp only[Bool.false_eq_true,if_false] at h ⊢
   cases k with
   |nil=>cases h;rfl
   |cons c U l =>
     have O:=λnds=>VT (f:=D7 n) (q:=Iv n) l nds (Rb (λt k Q D=>Y8 n t k ⟨Q,D⟩) l hw.2.2.2);simp only at h ⊢
     split at h
     · unfold need at h
       split at h
       · split at h
         · cases h
         · rename_i G d
           cases h
           rw[← O G d];exact List.append_nil _
       · cases h
     · unfold need at h
       split at h
       · split at h
         · cases h
         · rename_i G d
           cases h
           rw[← O G d];exact List.append_nil _
       · cases h
theorem Hb{f:Aq→Fo→R N}{p:Aq→Fo→Bool}(h:∀t k,fP t k→To (f t k)=p t k)(l:Fo)(d:l.wk):To (AL f l)=l.allB p:=OH l (Rb (λt k D F=>h t k ⟨D,F⟩) l d)
theorem Of(t:Aq):∀nd:Nd,0<nd.len→∃o,Hq t nd=some o
 |.cons op ln co tx nm k .nil,_=>⟨_,C⟩
 |.cons op ln co tx nm k (.cons a b c d e f r),_=>by
   obtain⟨o,h⟩:=Of t (.cons a b c d e f r) (Nat.succ_pos _);exact⟨_,by unfold Hq;simp only[h];rfl⟩
theorem uW:∀(n:Nat)(t:Aq)(k:Fo),fP t k→To (CN n t k)=C2 n t k
 |0,t,k,_=>rfl
 |n+1,t,k,h=>by
   by_cases D:t.k=0
   · have d:(t.k==0)=true:=beq_iff_eq.2 D
     cases k with
     |nil=>rw[S2 d];unfold CN;rw[d];rfl
     |cons c K l =>
       rw[CD d];have J:=Hb (uW n) l h.2.2.2;unfold CN;rw[d];simp only[if_true];rw[ZD D [45,62] dC,ZD D [116,117,112,108,101] dC,ZD D [114,101,102] dC,ZD D [112,114,101,102] dC,eB h.2.1.2]
       have G:(DB t (.cons c K l)==[])=!(c.k==5):=by
         show ((if (t.k==0&&c.k==5)=true then c.tx else [])==[])=_;rw[d]
         cases F:c.k==5 with
         |false=>rfl
         |true =>
           have:=(h.2.1.2 (eq_of_beq F)).1;show (c.tx==[])=false
           cases L:c.tx with
           |nil=>exact absurd L this
           |cons _ _=>rfl
       rw[G]
       cases F:c.k==5 with
       |false =>
         have e:∀w,c.isWord w=false:=λw=>by unfold Aq.isWord;rw[F];rfl
         have O:c.rn=false:=by unfold Aq.rn Aq.rv;rw[F];rfl
         rw[e,e,e,e,O];rfl
       |true =>
         simp only[Bool.not_true,Bool.false_eq_true,if_false]
         cases c.isWord [45,62] with
         |true =>
           rw[← J];unfold need;simp only[if_true]
           cases Q:decide ((2:Int)≤l.len) with
           |false=>rfl
           |true =>
             simp only[if_true,Bool.true_and]
             cases he:AL (CN n) l with
             |error e=>rfl
             |ok U =>
               obtain⟨o,W⟩:=Of t U (by rw[CE he];have:=dT Q;omega);simp only[W];rfl
         |false =>
           simp only[Bool.false_eq_true,if_false];rw[← J];unfold need within
           cases c.isWord [116,117,112,108,101] with
           |true=>cases AL (CN n) l <;> cases decide ((2:Int)≤l.len) <;> cases decide ((l.len:Int)≤8) <;> rfl
           |false =>
             cases (c.isWord [114,101,102]||c.isWord [112,114,101,102]) with
             |true=>cases AL (CN n) l <;> cases ((l.len:Int)==1) <;> rfl
             |false=>cases AL (CN n) l <;> cases c.rn <;> cases decide ((1:Int)≤l.len) <;> cases decide ((l.len:Int)≤8) <;> rfl
   · have d:(t.k==0)=false:=beq_eq_false_iff_ne.2 D
     rw[Js d];unfold CN;rw[d,pD h.1.2,eB h.1.2];unfold need
     cases t.rt <;> cases t.rn <;> rfl
variable {n:Nat}
theorem armE{ex:Aq→Fo→R N}{q:Aq→Fo→Bool}(F:∀t k,fP t k→To (ex t k)=q t k)(t:Aq)(k:Fo)(h:fP t k):To (Hd n ex t k)=TQ n q t k:=by
 unfold Hd TQ
 split
 · rename_i p d b bk
   have G:=patE n p d ⟨h.2.1,h.2.2.1⟩;have J:=F b bk ⟨h.2.2.2.1,h.2.2.2.2.1⟩;show _=(t.k==0&&(ET n p d&&(CU (Iv n p d)&&q b bk)));rw[← G,← J];unfold need
   cases t.k==0 with
   |false=>rfl
   |true =>
     simp only[if_true,Bool.true_and]
     cases K:D7 n p d with
     |error e=>rfl
     |ok a =>
       simp only;rw[lW,Y8 n p d ⟨h.2.1,h.2.2.1⟩ a K]
       cases CU (Iv n p d) <;> cases ex b bk <;> rfl
 · rename_i D
   split
   · rename_i p d b bk;exact absurd C (D p d b bk)
   · rfl
theorem zD{ex:Aq→Fo→R N}{q:Aq→Fo→Bool}(K:∀t k,fP t k→To (ex t k)=q t k)(t:Aq)(w:lU)(l:Fo)(D:l.wk):To (Bo n ex t w l)=HE n q w l:=by
 have he:=Hb K l D;unfold Bo HE
 cases w==[102,110] with
 |true =>
   simp only[if_true]
   split
   · rename_i p G b bk
     have O:=K b bk ⟨D.2.2.1,D.2.2.2.1⟩;show _=((p.k==0&&(decide ((1:Int)≤G.len)&&decide ((G.len:Int)≤8)))&&(WN G&&q b bk));rw[Z1 G D.2.1,← O];obtain⟨Z,Q⟩:=Pe G;rw[Q];unfold need within
     cases p.k==0 <;> cases decide ((1:Int)≤G.len) <;> cases decide ((G.len:Int)≤8) <;> cases WN G <;> cases ex b bk <;> rfl
   · rename_i F
     split
     · rename_i p G b bk;exact absurd C (F p G b bk)
     · rfl
 |false =>
 simp only[Bool.false_eq_true,if_false]
 cases w==[108,101,116] with
 |true =>
   simp only[if_true]
   split
   · rename_i v L e d b bk
     show _=(v.rh&&(q e d&&q b bk));rw[Qz D.1.2,← K e d ⟨D.2.2.1,D.2.2.2.1⟩,← K b bk ⟨D.2.2.2.2.1,D.2.2.2.2.2.1⟩];unfold need
     cases v.rh <;> cases ex e d <;> cases ex b bk <;> rfl
   · rename_i F
     split
     · rename_i v L e d b bk;exact absurd C (F v L e d b bk)
     · rfl
 |false =>
 simp only[Bool.false_eq_true,if_false]
 cases w==[114,101,99] with
 |true =>
   simp only[if_true]
   split
   · rename_i v L e d b bk
     show _=((v.rv&&FY e d)&&(q e d&&q b bk));rw[Kg D.1.2,pQ,← K e d ⟨D.2.2.1,D.2.2.2.1⟩,← K b bk ⟨D.2.2.2.2.1,D.2.2.2.2.2.1⟩];unfold need
     cases v.rv <;> cases FY e d <;> cases ex e d <;> cases ex b bk <;> rfl
   · rename_i F
     split
     · rename_i v L e d b bk;exact absurd C (F v L e d b bk)
     · rfl
 |false =>
 simp only[Bool.false_eq_true,if_false];rw[← he]
 cases w==[105,102] with
 |true=>unfold need;cases ((l.len:Int)==3) <;> cases AL ex l <;> rfl
 |false =>
 simp only[Bool.false_eq_true,if_false]
 cases w==[115,101,113] with
 |true=>unfold need;cases decide ((1:Int)≤l.len) <;> cases AL ex l <;> rfl
 |false =>
 simp only[Bool.false_eq_true,if_false]
 cases w==[116,117,112,108,101] with
 |true=>unfold need within;cases decide ((2:Int)≤l.len) <;> cases decide ((l.len:Int)≤8) <;> cases AL ex l <;> rfl
 |false =>
 simp only[Bool.false_eq_true,if_false]
 cases U:(w==[99,97,115,101]||w==[116,114,121]) with
 |true =>
   simp only[if_true]
   cases l with
   |nil=>unfold need;rfl
   |cons e d J =>
     have W:=Hb (armE (n:=n) K) J D.2.2;have Y:=K e d ⟨D.1,D.2.1⟩;simp only;rw[← W,← Y];unfold need
     cases decide ((2:Int)≤(Fo.cons e d J).len) <;> cases ex e d <;> cases AL (Hd n ex) J <;> rfl
 |false =>
 simp only[Bool.false_eq_true,if_false]
 cases U:(w==[114,97,105,115,101]||w==[116,114,97,110,115,97,99,116]) with
 |true =>
   simp only[if_true]
   split
   · rename_i e d
     unfold AL AL
     cases ex e d <;> rfl
   · rename_i F
     have:((l.len:Int)==1)=false:=by
       rcases Fo.single l with ⟨p,G,rfl⟩|h
       · exact absurd C (F p G)
       · exact beq_eq_false_iff_ne.2 oM
     rw[this];rfl
 |false=>rfl
theorem Vr:∀(n:Nat)(t:Aq)(k:Fo),fP t k→To (BB n t k)=Cv n t k
 |0,t,k,_=>rfl
 |n+1,t,k,h=>by
   unfold BB Cv
   by_cases J:t.k=2
   · rw[J];rfl
   rw[show (t.k==2)=false from beq_eq_false_iff_ne.2 J]
   by_cases K:t.k=3
   · rw[K];rfl
   rw[show (t.k==3)=false from beq_eq_false_iff_ne.2 K]
   by_cases L:t.k=4
   · rw[L];rfl
   rw[show (t.k==4)=false from beq_eq_false_iff_ne.2 L]
   by_cases O:t.k=6
   · rw[O];rfl
   rw[show (t.k==6)=false from beq_eq_false_iff_ne.2 O]
   by_cases Q:t.k=5
   · rw[Q]
     show To (need t t.isVar _)=t.rv;rw[Tu,Kg h.1.2];exact Bool.and_true _
   rw[show (t.k==5)=false from beq_eq_false_iff_ne.2 Q];simp only[Bool.false_eq_true,if_false]
   cases k with
   |nil=>rfl
   |cons c D l =>
     have U:t.k=0:=h.1.1.elim (λh=>by cases h) id;have W:=Hb (Vr n) l h.2.2.2;have d:=Hb (Vr n) (.cons c D l) h.2;simp only
     cases c.k==6 with
     |true =>
       rw[← W];unfold need within
       cases AL (BB n) l <;> cases decide ((1:Int)≤l.len) <;> cases decide ((l.len:Int)≤8) <;> rfl
     |false =>
       simp only[Bool.false_eq_true,if_false]
       have F:DB t (.cons c D l)=if c.k==5 then c.tx else []:=by
         show (if (t.k==0&&c.k==5)=true then c.tx else [])=_;rw[show (t.k==0)=true from beq_iff_eq.2 U,Bool.true_and]
       rw[F]
       cases G:c.k==5 with
       |true =>
         simp only[if_true,Bool.true_and];rw[yS (h.2.1.2 (eq_of_beq G)).2]
         cases OU.contains c.tx with
         |true=>exact zD (Vr n) t c.tx l h.2.2.2
         |false =>
           rw[← d];unfold need within;simp only[Bool.false_eq_true,if_false]
           cases AL (BB n) (.cons c D l) <;> cases decide ((1:Int)≤l.len) <;> cases decide ((l.len:Int)≤8) <;> rfl
       |false =>
         rw[show OU.contains (if false=true then c.tx else [])=false from C];rw[← d];unfold need within;simp only[Bool.false_and,Bool.false_eq_true,if_false]
         cases AL (BB n) (.cons c D l) <;> cases decide ((1:Int)≤l.len) <;> cases decide ((l.len:Int)≤8) <;> rfl
theorem dconE(n:Nat)(t:Aq)(k:Fo)(h:fP t k):To (G2 n t k)=L5 n t k:=by
 cases k with
 |nil=>rfl
 |cons c d l =>
   have D:=Hb (uW n) l h.2.2.2;unfold G2 L5;simp only;rw[← D];unfold need
   cases t.k==0 <;> cases decide (((Fo.cons c d l).len:Int)≤9) <;> cases c.k==6 <;> cases AL (CN n) l <;> rfl
theorem ZV:∀l:Fo,l.wk→(Bx l).isSome=RJ l
 |.nil,_=>rfl
 |.cons t k r,h=>by
   have d:=ZV r h.2.2;unfold Bx;show _=(t.rt&&RJ r);rw[← d,pD h.1.2]
   cases t.rt with
   |false=>rfl
   |true=>cases Bx r <;> rfl
theorem topE(n:Nat)(t:Aq)(k:Fo)(h:fP t k):To (C5 n t k)=AP n t k:=by
 cases k with
 |nil=>rfl
 |cons c L l =>
   have F:=h.2.2.2;unfold C5 AP;simp only;have K:DB t (.cons c L l)=if (t.k==0&&c.k==5)=true then c.tx else []:=rfl
   rw[K]
   cases O:(t.k==0&&c.k==5) with
   |false=>rfl
   |true =>
   unfold need;simp only[if_true]
   cases c.tx==[100,97,116,97] with
   |true =>
     simp only[if_true]
     split
     · rename_i a G b bk d J r
       show _=((a.rn&&(b.k==0&&decide ((bk.len:Int)≤8)))&&(RJ bk&&(Fo.cons d J r).allB (L5 n)));rw[eB F.1.2];have Q:=ZV bk F.2.2.2.1;have hd:=Hb (dconE n) (.cons d J r) F.2.2.2.2;rw[← Q,← hd]
       cases a.rn <;> cases b.k==0 <;> cases decide ((bk.len:Int)≤8) <;> first|rfl|(cases Bx bk <;> cases AL (G2 n) (.cons d J r) <;> rfl)
     · rename_i D
       split
       · rename_i a G b bk d J r;exact absurd C (D a G b bk d J r)
       · rfl
   |false =>
   simp only[Bool.false_eq_true,if_false]
   cases c.tx==[114,111,111,116] with
   |true =>
     simp only[if_true]
     split
     · rename_i a G b bk d J
       show _=(a.rv&&(C2 n b bk&&Cv n d J));rw[Kg F.1.2,← uW n b bk ⟨F.2.2.1,F.2.2.2.1⟩,← Vr n d J ⟨F.2.2.2.2.1,F.2.2.2.2.2.1⟩]
       cases a.rv <;> cases CN n b bk <;> cases BB n d J <;> rfl
     · rename_i D
       split
       · rename_i a G b bk d J;exact absurd C (D a G b bk d J)
       · rfl
   |false =>
   simp only[Bool.false_eq_true,if_false]
   cases c.tx==[100,101,102] with
   |true =>
     simp only[if_true]
     split
     · rename_i a G b bk
       show _=(a.rv&&Cv n b bk);rw[Kg F.1.2,← Vr n b bk ⟨F.2.2.1,F.2.2.2.1⟩]
       cases a.rv <;> cases BB n b bk <;> rfl
     · rename_i D
       split
       · rename_i a G b bk;exact absurd C (D a G b bk)
       · rfl
   |false =>
   simp only[Bool.false_eq_true,if_false]
   cases c.tx==[114,101,99] with
   |true =>
     simp only[if_true]
     split
     · rename_i a G b bk
       show _=((a.rv&&FY b bk)&&Cv n b bk);rw[Kg F.1.2,pQ,← Vr n b bk ⟨F.2.2.1,F.2.2.2.1⟩]
       cases a.rv <;> cases FY b bk <;> cases BB n b bk <;> rfl
     · rename_i D
       split
       · rename_i a G b bk;exact absurd C (D a G b bk)
       · rfl
   |false =>
   simp only[Bool.false_eq_true,if_false]
   cases c.tx==[100,111] with
   |true =>
     simp only[if_true]
     split
     · rename_i b bk
       show _=(true&&(Cv n b bk&&true));rw[← Vr n b bk ⟨F.1,F.2.1⟩]
       cases BB n b bk <;> rfl
     · rename_i D
       have:((l.len:Int)==1)=false:=by
         rcases Fo.single l with ⟨p,U,rfl⟩|h
         · exact absurd C (D p U)
         · exact beq_eq_false_iff_ne.2 oM
       rw[this];rfl
   |false=>rfl
def Fo.ft:Fo→Fo
 |.nil=>.nil
 |.cons t k r=>.cons t.ft k.ft r.ft
theorem I9(t:Aq):t.ft.k=t.k:=by unfold Aq.ft;split <;> rfl
theorem JL{t:Aq}(h:t.k≠3):t.ft=t:=by unfold Aq.ft;rw[if_neg];intro d;exact h (eq_of_beq d)
theorem Pt(t:Aq):t.ft.rv=t.rv:=by
 by_cases h:t.k=3
 · unfold Aq.rv;rw[I9,h];rfl
 · rw[JL h]
theorem cN(t:Aq):t.ft.rh=t.rh:=by
 by_cases h:t.k=3
 · unfold Aq.rh;rw[Pt,I9,h];rfl
 · rw[JL h]
theorem aW(t:Aq):t.ft.rn=t.rn:=by
 by_cases h:t.k=3
 · unfold Aq.rn Aq.rv;rw[I9,h];rfl
 · rw[JL h]
theorem pV(t:Aq):t.ft.rt=t.rt:=by
 by_cases h:t.k=3
 · unfold Aq.rt;rw[I9,h];rfl
 · rw[JL h]
theorem DF:∀k:Fo,k.ft.len=k.len
 |.nil=>rfl
 |.cons _ _ r=>congrArg (· + 1) (DF r)
theorem Mg(t:Aq)(k:Fo):DB t.ft k.ft=DB t k:=by
 cases k with
 |nil=>rfl
 |cons h D l =>
   show (if (t.ft.k==0&&h.ft.k==5)=true then h.ft.tx else [])=(if (t.k==0&&h.k==5)=true then h.tx else []);rw[I9,I9]
   by_cases d:h.k=3
   · rw[d];cases t.k==0 <;> rfl
   · rw[JL d]
theorem DI{p q:Aq→Fo→Bool}(h:∀t k,p t.ft k.ft=q t k):∀k:Fo,k.ft.allB p=k.allB q
 |.nil=>rfl
 |.cons t k r=>by show (p t.ft k.ft&&r.ft.allB p)=(q t k&&r.allB q);rw[h,DI h r]
theorem Ti{p q:Aq→Fo→List lU}(h:∀t k,p t.ft k.ft=q t k):∀k:Fo,k.ft.names p=k.names q
 |.nil=>rfl
 |.cons t k r=>by show p t.ft k.ft++r.ft.names p=q t k++r.names q;rw[h,Ti h r]
theorem xF(l:Fo):WN l.ft=WN l:=DI (λt _=>cN t) l
theorem sQ(l:Fo):RJ l.ft=RJ l:=DI (λt _=>pV t) l
theorem Z4:∀(n:Nat)(t:Aq)(k:Fo),ET n t.ft k.ft=ET n t k
 |0,t,k=>rfl
 |n+1,t,k=>by
   unfold ET;rw[I9,cN]
   cases k with
   |nil=>rfl
   |cons c h l =>
     have d:=Mg t (.cons c h l);have D:=DI (Z4 n) l;simp only[Fo.ft] at d ⊢;simp only[d,I9,DF,D]
theorem ZC:∀(n:Nat)(t:Aq)(k:Fo),Iv n t.ft k.ft=Iv n t k
 |0,t,k=>rfl
 |n+1,t,k=>by
   unfold Iv;rw[I9]
   by_cases d:t.k=3
   · rw[d];rfl
   rw[JL d]
   cases k with
   |nil=>rfl
   |cons c D l =>
     have h:=Ti (ZC n) l;simp only[Fo.ft];rw[h]
theorem Q1:∀(n:Nat)(t:Aq)(k:Fo),C2 n t.ft k.ft=C2 n t k
 |0,t,k=>rfl
 |n+1,t,k=>by
   unfold C2;rw[I9,pV,aW]
   cases k with
   |nil=>rfl
   |cons c h l =>
     have d:=Mg t (.cons c h l);have D:=DI (Q1 n) l;simp only[Fo.ft] at d ⊢;simp only[d,DF,D,aW]
variable {ns:List (NR×List NR)}
theorem rP{p q:Aq→Fo→Bool}(h:∀t k,p t.ft k.ft=q t k)(t:Aq)(k:Fo):TQ n p t.ft k.ft=TQ n q t k:=by
 rcases Fo.two k with ⟨a,D,b,bk,rfl⟩|d
 · show (t.ft.k==0&&(ET n a.ft D.ft&&(CU (Iv n a.ft D.ft)&&p b.ft bk.ft)))=(t.k==0&&(ET n a D&&(CU (Iv n a D)&&q b bk)))
   rw[I9,Z4,ZC,h]
 · rw[Qf d,Qf (by rw[DF];exact d)]
theorem Wi(t:Aq)(k:Fo):FY t.ft k.ft=FY t k:=by unfold FY;rw[Mg]
theorem rT{p q:Aq→Fo→Bool}(h:∀t k,p t.ft k.ft=q t k)(w:lU)(l:Fo):HE n p w l.ft=HE n q w l:=by
 cases D:w==[102,110] with
 |true =>
   rcases Fo.two l with ⟨a,G,b,bk,rfl⟩|d
   · rw[Ky D]
     show HE n p w (.cons a.ft G.ft (.cons b.ft bk.ft .nil))=_;rw[Ky D,I9,DF,xF,h]
   · rw[Mc D d,Mc D (by rw[DF];exact d)]
 |false =>
 cases F:w==[108,101,116] with
 |true =>
   rcases Fo.three l with ⟨v,L,a,G,b,bk,rfl⟩|d
   · rw[MG D F]
     show HE n p w (.cons v.ft L.ft (.cons a.ft G.ft (.cons b.ft bk.ft .nil)))=_;rw[MG D F,cN,h,h]
   · rw[Km D F d,Km D F (by rw[DF];exact d)]
 |false =>
 cases J:w==[114,101,99] with
 |true =>
   rcases Fo.three l with ⟨v,L,a,G,b,bk,rfl⟩|d
   · rw[Lc D F J]
     show HE n p w (.cons v.ft L.ft (.cons a.ft G.ft (.cons b.ft bk.ft .nil)))=_;rw[Lc D F J,Pt,Wi,h,h]
   · rw[Kt D F J d,Kt D F J (by rw[DF];exact d)]
 |false =>
 unfold HE;rw[D,F,J,DF,DI h]
 cases l with
 |nil=>rfl
 |cons e Q K =>
   have O:=DI (rP (n:=n) h) K;simp only[Fo.ft,Bool.false_eq_true,if_false,h,O]
theorem JW:∀(n:Nat)(t:Aq)(k:Fo),Cv n t.ft k.ft=Cv n t k
 |0,t,k=>rfl
 |n+1,t,k=>by
   unfold Cv;rw[I9,Pt]
   cases k with
   |nil=>rfl
   |cons c d l =>
     have h:=Mg t (.cons c d l);have F:=DI (JW n) l;have D:=DI (JW n) (.cons c d l);simp only[Fo.ft] at h D ⊢;simp only[h,I9,DF,F,D,rT (JW n)]
theorem sG(n:Nat)(t:Aq)(k:Fo):L5 n t.ft k.ft=L5 n t k:=by
 cases k with
 |nil=>rfl
 |cons c h l =>
   have D:=DI (Q1 n) l;have d:=DF (.cons c h l);unfold L5;simp only[Fo.ft] at d ⊢;simp only[d,I9,D]
theorem T7(n:Nat)(t:Aq)(k:Fo):AP n t.ft k.ft=AP n t k:=by
 cases k with
 |nil=>rfl
 |cons c J l =>
   have K:=Mg t (.cons c J l);show AP n t.ft (.cons c.ft J.ft l.ft)=_;have K:DB t.ft (.cons c.ft J.ft l.ft)=DB t (.cons c J l):=K
   cases L:DB t (.cons c J l)==[100,97,116,97] with
   |true =>
     rcases Fo.three1 l with ⟨a,U,b,bk,d,Z,q,rfl⟩|h
     · rw[Ch L]
       show AP n t.ft (.cons c.ft J.ft (.cons a.ft U.ft (.cons b.ft bk.ft (.cons d.ft Z.ft q.ft))))=_;have hq:=DI (sG n) (.cons d Z q);simp only[Fo.ft] at hq;rw[Ch ((congrArg (· == _) K).trans L),aW,I9,DF,sQ,hq]
     · rw[F3 L h,F3 ((congrArg (· == _) K).trans L) (by rw[DF];exact h)]
   |false =>
   have F:=(congrArg (· == [100,97,116,97]) K).trans L
   cases O:DB t (.cons c J l)==[114,111,111,116] with
   |true =>
     have D:=(congrArg (· == [114,111,111,116]) K).trans O;rcases Fo.three l with ⟨a,U,b,bk,d,Z,rfl⟩|h
     · rw[HS L O]
       show AP n t.ft (.cons c.ft J.ft (.cons a.ft U.ft (.cons b.ft bk.ft (.cons d.ft Z.ft .nil))))=_;rw[HS F D,Pt,Q1,JW]
     · rw[Hi L O h,Hi F D (by rw[DF];exact h)]
   |false =>
   have D:=(congrArg (· == [114,111,111,116]) K).trans O
   cases W:DB t (.cons c J l)==[100,101,102] with
   |true =>
     have G:=(congrArg (· == [100,101,102]) K).trans W;rcases Fo.two l with ⟨a,U,b,bk,rfl⟩|h
     · rw[Jq L O W]
       show AP n t.ft (.cons c.ft J.ft (.cons a.ft U.ft (.cons b.ft bk.ft .nil)))=_;rw[Jq F D G,Pt,JW]
     · rw[HM L O W h,HM F D G (by rw[DF];exact h)]
   |false =>
   have G:=(congrArg (· == [100,101,102]) K).trans W
   cases Y:DB t (.cons c J l)==[114,101,99] with
   |true =>
     have Q:=(congrArg (· == [114,101,99]) K).trans Y;rcases Fo.two l with ⟨a,U,b,bk,rfl⟩|h
     · rw[Hw L O W Y]
       show AP n t.ft (.cons c.ft J.ft (.cons a.ft U.ft (.cons b.ft bk.ft .nil)))=_;rw[Hw F D G Q,Pt,Wi,JW]
     · rw[HR L O W Y h,HR F D G Q (by rw[DF];exact h)]
   |false =>
   have Q:=(congrArg (· == [114,101,99]) K).trans Y;rw[GM L O W Y C,GM F D G Q (congrArg (· == [100,111]) K),DF,DI (JW n)]
theorem VL(d:lU):∀(l:Fo)(i:Nat),l.allB (L5 n)=true→O9 d i l.ft=O9 d i l
 |.nil,i,_=>rfl
 |.cons t k r,i,h=>by
   have h:(L5 n t k&&r.allB (L5 n))=true:=h;rw[Bool.and_eq_true] at h;have F:=VL d r (i+1) h.2
   cases k with
   |nil=>cases h.1
   |cons c J l =>
     have D:=h.1;rw[IB] at D;simp only[Bool.and_eq_true] at D;have G:c.k=6:=eq_of_beq D.2.2.1;show (c.ft.tx,d,i,l.ft.len)::O9 d (i+1) r.ft=(c.tx,d,i,l.len)::O9 d (i+1) r;rw[JL (by rw[G];decide),DF,F]
theorem qZ{t:Aq}{k:Fo}(h:AP n t k=true):XI t.ft k.ft=XI t k:=by
 cases k with
 |nil=>rfl
 |cons c F l =>
   have K:DB t.ft (.cons c.ft F.ft l.ft)=DB t (.cons c F l):=Mg t (.cons c F l)
   cases D:DB t (.cons c F l)==[100,97,116,97] with
   |false=>rw[JY D];exact JY ((congrArg (· == _) K).trans D)
   |true =>
     rcases Fo.three1 l with ⟨a,O,b,bk,d,L,q,rfl⟩|G
     · rw[Ch D] at h
       simp only[Bool.and_eq_true] at h
       have Q:a.k=5:=by
         have J:=h.1.1;unfold Aq.rn Aq.rv at J;simp only[Bool.and_eq_true] at J;exact eq_of_beq J.1.1
       have U:=VL a.tx (.cons d L q) 0 h.2.2;rw[Lu D];show XI t.ft (.cons c.ft F.ft (.cons a.ft O.ft (.cons b.ft bk.ft (.cons d.ft L.ft q.ft))))=_;rw[Lu ((congrArg (· == _) K).trans D),JL (t:=a) (by rw[Q];decide)];exact U
     · rw[F3 D G] at h;cases h
theorem UF:∀d:Fo,d.allB (AP n)=true→Z6 d.ft=Z6 d
 |.nil,_=>rfl
 |.cons t k r,h=>by
   have h:(AP n t k&&r.allB (AP n))=true:=h;rw[Bool.and_eq_true] at h;show XI t.ft k.ft++Z6 r.ft=XI t k++Z6 r;rw[qZ h.1,UF r h.2]
theorem Qy:∀(x:Fo)(t:Aq)(k:Fo),(x.snoc t k).ft=x.ft.snoc t.ft k.ft
 |.nil,t,k=>rfl
 |.cons a b r,t,k=>by show Fo.cons a.ft b.ft (r.snoc t k).ft=Fo.cons a.ft b.ft (r.ft.snoc t.ft k.ft);rw[Qy r t k]
def zE(st:List (Aq×Fo)):List (Aq×Fo):=st.map λp=>(p.1.ft,p.2.ft)
def fI:R Fo→R Fo
 |.error _=>.error (0,0)
 |.ok d=>.ok d.ft
theorem SC:∀(l:List Aq)(st:List (Aq×Fo))(cur:Fo),fI (A7 (l.map Aq.ft) (zE st) cur.ft)=fI (fI (A7 l st cur))
 | [],[],cur=>rfl
 | [],o::s,cur=>by
   have D:∀(o:Aq×Fo)(s:List (Aq×Fo))(c:Fo),∃e,A7 [] (o::s) c=.error e:=λo s c=>by
     unfold A7
     split <;> exact⟨_,C⟩
   obtain⟨G,d⟩:=D o s cur;obtain⟨J,h⟩:=D (o.1.ft,o.2.ft) (zE s) cur.ft;rw[d];show fI (A7 [] ((o.1.ft,o.2.ft)::zE s) cur.ft)=_;rw[h];rfl
 |k::l,st,cur=>by
   rw[A7.eq_def (k::l)];show fI (A7 (k.ft::l.map Aq.ft) (zE st) cur.ft)=_;rw[A7.eq_def (k.ft::l.map Aq.ft)];simp only;rw[I9];have F:(zE st).length=st.length:=List.length_map _;rw[F]
   split
   · split
     · rfl
     · exact SC l ((k,cur)::st) .nil
   · split
     · cases st with
       |nil=>rfl
       |cons op s =>
         obtain⟨o,p⟩:=op;have:=SC l s (p.snoc o cur);rw[Qy] at this;exact this
     · have:=SC l st (cur.snoc k .nil)
       rw[Qy] at this;exact this
theorem ft_ft(t:Aq):t.ft.ft=t.ft:=by
 by_cases h:t.k=3
 · unfold Aq.ft;rw[h];rfl
 · rw[JL h,JL h]
theorem Y6:∀k:Fo,k.ft.ft=k.ft
 |.nil=>rfl
 |.cons t k r=>by show Fo.cons t.ft.ft k.ft.ft r.ft.ft=_;rw[ft_ft,Y6 k,Y6 r];rfl
theorem ftR2(x:R Fo):fI (fI x)=fI x:=by
 cases x with
 |error e=>rfl
 |ok k=>exact congrArg Except.ok (Y6 k)
theorem jO{l d:List Aq}(h:l.map Aq.ft=d.map Aq.ft):fI (A7 l [] .nil)=fI (A7 d [] .nil):=by
 have D:=SC l [] .nil;have F:=SC d [] .nil;rw[ftR2] at D F;rw[← D,← F,h]
theorem S1(d:lU):∀(l:Fo)(vs x:Nd)(i:Nat),Bx l=some vs→Ho d i (vs.app x)=Ho d i x
 |.nil,vs,x,i,h=>by cases h;rfl
 |.cons t k r,vs,x,i,h=>by
   unfold Bx at h
   split at h
   · split at h
     · cases h
     · rename_i v D
       cases h
       exact S1 d r v x i D
   · cases h
theorem TD(d:lU):∀(l:Fo)(cs:Nd)(i:Nat),AL (G2 n) l=.ok cs→Ho d i cs=O9 d i l
 |.nil,cs,i,h=>by cases h;rfl
 |.cons t k r,cs,i,h=>by
   unfold AL at h
   split at h
   · cases h
   · rename_i a D
     split at h
     · cases h
     · rename_i b G
       cases h
       have J:=TD d r b (i+1) G
       cases k with
       |nil=>cases D
       |cons c L l =>
         unfold G2 need at D;simp only at D
         split at D
         · split at D
           · cases D
           · rename_i K F
             cases D
             show (c.tx,d,i,K.len)::Ho d (i+1) b=(c.tx,d,i,l.len)::O9 d (i+1) r;rw[J,CE F]
         · cases D
theorem rQ{t:Aq}{k:Fo}{a:N}(h:C5 n t k=.ok a):(if a.op==41 then Ho a.tx 0 a.kids else [])=XI t k:=by
 cases k with
 |nil=>cases h
 |cons c K l =>
   unfold C5 need at h;simp only at h
   split at h
   · rename_i F
     have D:DB t (.cons c K l)=c.tx:=if_pos F
     cases hd:c.tx==[100,97,116,97] with
     |true =>
       rw[hd] at h;simp only[if_true] at h
       split at h
       · rename_i a L b bk d O r
         split at h
         · split at h
           · cases h
           · rename_i vs G
             split at h
             · cases h
             · rename_i cs J
               cases h
               rw[Lu ((congrArg (· == _) D).trans hd)];show Ho a.tx 0 (vs.app cs)=_;rw[S1 _ _ _ _ _ G,TD _ _ _ _ J]
         · cases h
       · cases h
     |false =>
       rw[JY ((congrArg (· == _) D).trans hd)];rw[hd] at h;simp only[Bool.false_eq_true,if_false] at h
       repeat' (split at h)
       all_goals first|(cases h;rfl)|cases h
   · cases h
theorem VM:∀(d:Fo)(nds:Nd),AL (C5 n) d=.ok nds→Ip nds=Z6 d
 |.nil,nds,h=>by cases h;rfl
 |.cons t k r,nds,h=>by
   unfold AL at h
   split at h
   · cases h
   · rename_i a D
     split at h
     · cases h
     · rename_i b F
       cases h
       have G:=VM r b F;show (if a.op==41 then Ho a.tx 0 a.kids else [])++Ip b=XI t k++Z6 r;rw[rQ D,G]
theorem NT:∀(l:Fo)(vs:Nd),Bx l=some vs→vs.len=l.len
 |.nil,vs,h=>by cases h;rfl
 |.cons t k r,vs,h=>by
   unfold Bx at h
   split at h
   · split at h
     · cases h
     · rename_i v d
       cases h
       exact congrArg (· + 1) (NT r v d)
   · cases h
theorem lZ{t:Aq}{k:Fo}{a:N}(h:C5 n t k=.ok a)(J:a.op=41):a.kids.len≤k.sz:=by
 cases k with
 |nil=>cases h
 |cons c K l =>
   unfold C5 need at h;simp only at h
   split at h
   · cases hd:c.tx==[100,97,116,97] with
     |true =>
       rw[hd] at h;simp only[if_true] at h
       split at h
       · rename_i a L b bk d G r
         split at h
         · split at h
           · cases h
           · rename_i vs D
             split at h
             · cases h
             · rename_i cs F
               cases h
               have O:=NT bk vs D;have Q:=CE F;have U:=Fo.len_sz bk;have W:=Fo.len_sz (.cons d G r);show (vs.app cs).len≤K.sz+(L.sz+(bk.sz+(Fo.cons d G r).sz+1)+1)+1;rw[Nd.app_len];omega
         · cases h
       · cases h
     |false =>
       rw[hd] at h;simp only[Bool.false_eq_true,if_false] at h
       repeat' (split at h)
       all_goals first|(cases h;cases J)|cases h
   · cases h
theorem SO:∀(d:Fo)(nds:Nd),AL (C5 n) d=.ok nds→d.sz≤200000→nds.k41
 |.nil,nds,h,_=>by cases h;exact tQ
 |.cons t k r,nds,h,D=>by
   have D:k.sz+r.sz+1≤200000:=D;unfold AL at h
   split at h
   · cases h
   · rename_i a F
     split at h
     · cases h
     · rename_i b G
       cases h
       exact⟨λJ=>Nat.le_trans (lZ F J) oM,SO r b G oM⟩
theorem Se(src:lU):(FX 200 (EG src)).1.k41∧(FX 200 (EG src)).1.len≤200000:=by
 cases h:EG src with
 |error e=>exact⟨tQ,Nat.zero_le _⟩
 |ok lp =>
   have D:=Nn h;unfold FX;simp only
   cases F:A7 lp [] .nil with
   |error e=>exact⟨tQ,Nat.zero_le _⟩
   |ok d =>
     have G:=Sy lp [] .nil d F;have J:d.sz≤100000:=by have K:d.sz≤0+0+lp.length:=G;omega
     simp only
     cases he:AL (C5 200) d with
     |error e=>exact⟨tQ,Nat.zero_le _⟩
     |ok nds=>exact⟨SO d nds he oM,by show nds.len≤200000;rw[CE he];have:=Fo.len_sz d;omega⟩
theorem VW{e:Int}(h:PgQ src ns e):(FX 200 (EG src)).2.2.2=e∧Ip (FX 200 (EG src)).1=ns.flatMap λp=>Q8 p.1 p.2:=by
 rcases h with ⟨rfl,⟨p,hp⟩,rfl⟩|⟨L,lp,G,W,-,h⟩
 · rw[hp];exact⟨C,C⟩
 have d:=jO W;have Y:=jA G;rcases h with ⟨he,rfl,rfl⟩|⟨Q,Z,-,h⟩
 · have:∃e,A7 lp [] .nil=.error e:=by
     cases U:A7 lp [] .nil with
     |error e=>exact⟨e,C⟩
     |ok x =>
       cases hL:A7 L [] .nil with
       |error e=>rw[U,hL] at d;cases d
       |ok y=>rw[hL] at he;cases he
   obtain⟨e1,h1⟩:=this
   have e2:FX 200 (EG src)=(.nil,e1.1,e1.2,10):=by
     unfold FX;rw[G];simp only[h1]
   rw[e2];exact⟨C,C⟩
 · obtain⟨fl,J,K⟩:∃fl,A7 lp [] .nil=.ok fl∧fl.ft=Q.ft:=by
     rw[Z] at d
     cases U:A7 lp [] .nil with
     |error e=>rw[U] at d;cases d
     |ok x=>rw[U] at d;injection d with h9;exact⟨x,C,h9⟩
   have hwk:=WD lp [] .nil fl Y tQ tQ J;have D:=Hb (topE 200) fl hwk;have F:fl.allB (AP 200)=Q.allB (AP 200):=by rw[← DI (T7 200) fl,K,DI (T7 200) Q]
   rw[F] at D;unfold FX;rw[G];simp only[J];rcases h with ⟨O,rfl,rfl⟩|⟨O,rfl,hcn⟩
   · rw[O] at D
     cases hm:AL (C5 200) fl with
     |error e=>exact⟨C,C⟩
     |ok nds=>rw[hm] at D;cases D
   · rw[O] at D
     cases hm:AL (C5 200) fl with
     |error e=>rw[hm] at D;cases D
     |ok nds =>
       refine⟨C,?_⟩;show Ip nds=_;rw[VM fl nds hm,hcn,← UF fl (F.trans O),K,UF Q O]
end Go.SP
namespace Go.SW
open Go.RowKit
def eO(P:Program)(t:tI):Bool:=match P.underlying t with
 |some (.struct fs)=>(match fs.toList with
   | [f,g,h,k]=>((f.name != "_" && g.name != "_")&&(h.name != "_" && k.name != "_"))&&((f.offset==0&&g.offset==1)&&(h.offset==2&&k.offset==3))&&(match P.underlying f.type,P.underlying g.type,P.underlying h.type,P.underlying k.type with|some .string,some .string,some (.int .i64),some (.int .i64)=>true|_,_,_,_=>false)
   |_=>false)&&(!P.stoodInHeld t&&!P.eqGuardType P.depth t)
 |_=>false
variable {σ:Ba}{off:Nat}{x:Operand}{P:Program}{e t t' ty:tI}{w:wO}
theorem JR{cs:Array Value}{v:Value}(he:P.underlying e=some .string)(d:cs[off]?=some v):(part e cs off).run P w=.ok v w:=by
 simp[part,isAgg,run_underlying he,d]
theorem Z7(a:ByteArray):(a==a)=true:=by
 obtain⟨x⟩:=a;exact (show (x==x)=true by simp)
theorem Xx{a1 a2:lU}{a3 a4:Int}(h:eO P t=true)(d:Nat):(Op.equalIn (d+2) t (.agg #[S a1,S a2,.int .i64 a3,.int .i64 a4]) (.agg #[S a1,S a2,.int .i64 a3,.int .i64 a4])).run P w=.ok true w:=by
 unfold eO at h
 split at h
 · rename_i fs hu
   rw[Bool.and_eq_true] at h;obtain⟨F,Z⟩:=h
   split at F
   · rename_i f g j k D
     simp only[Bool.and_eq_true] at F Z;obtain⟨⟨⟨⟨G,J⟩,K,L⟩,⟨O,Q⟩,U,W⟩,h3⟩:=F
     split at h3
     · rename_i hf hg hj hk
       have e1:f.offset=0:=by simpa using O
       have e2:g.offset=1:=by simpa using Q
       have e3:j.offset=2:=by simpa using U
       have e4:k.offset=3:=by simpa using W
       have n1:f.name ≠ "_" := by simpa using G
       have n2:g.name ≠ "_" := by simpa using J
       have n3:j.name ≠ "_" := by simpa using K
       have n4:k.name ≠ "_" := by simpa using L
       have Y:P.stoodInHeld t=false:=by simpa using Z.1
       have q1:(Op.equalIn (d+1) f.type (S a1) (S a1)).run P w=.ok true w:=by simp[Op.equalIn,run_underlying hf,Z7]
       have q2:(Op.equalIn (d+1) g.type (S a2) (S a2)).run P w=.ok true w:=by simp[Op.equalIn,run_underlying hg,Z7]
       have q3:(Op.equalIn (d+1) j.type (.int .i64 a3) (.int .i64 a3)).run P w=.ok true w:=by simp[Op.equalIn,run_underlying hj]
       have q4:(Op.equalIn (d+1) k.type (.int .i64 a4) (.int .i64 a4)).run P w=.ok true w:=by simp[Op.equalIn,run_underlying hk]
       have p1:(part f.type #[S a1,S a2,.int .i64 a3,.int .i64 a4] 0).run P w=.ok (S a1) w:=JR hf C;have p2:(part g.type #[S a1,S a2,.int .i64 a3,.int .i64 a4] 1).run P w=.ok (S a2) w:=JR hg C;have p3:(part j.type #[S a1,S a2,.int .i64 a3,.int .i64 a4] 2).run P w=.ok (.int .i64 a3) w:=DS hj C;have p4:(part k.type #[S a1,S a2,.int .i64 a3,.int .i64 a4] 3).run P w=.ok (.int .i64 a4) w:=DS hk C;obtain⟨fl⟩:=fs;simp only at D;subst D;rw[Op.equalIn];simp only[Sem.run_bind,run_underlying hu,Result.andThen_ok,run_program,Y,Bool.false_eq_true,if_false];simp[n1,n2,n3,n4,e1,e2,e3,e4,p1,p2,p3,p4,q1,q2,q3,q4]
     · cases h3
   · cases F
 · cases h
theorem Zl{y:Operand}{a1 a2:lU}{a3 a4:Int}(h:eO P t=true)(D:ev σ x=some (.agg #[S a1,S a2,.int .i64 a3,.int .i64 a4]))(F:ev σ y=some (.agg #[S a1,S a2,.int .i64 a3,.int .i64 a4])):AK P σ (.binOp .neq t x y t') ty w (.bool false) w:=λJ _ _ _ _ d=>by
 have G:P.eqGuardType P.depth t=false:=by
   unfold eO at h
   split at h
   · simp only[Bool.and_eq_true] at h;simpa using h.2.2
   · cases h
 have e:(Op.equal t (.agg #[S a1,S a2,.int .i64 a3,.int .i64 a4]) (.agg #[S a1,S a2,.int .i64 a3,.int .i64 a4])).run P w=.ok true w:=Xx (w:=w) (a1:=a1) (a2:=a2) (a3:=a3) (a4:=a4) h 9998;simp[execOp,d _ _ D,d _ _ F,run_eqGuard_agg w _ _ _ _ _ _ G,binOp,e]
end Go.SW
namespace Go.SP
variable {ns:List (NR×List NR)}{src:lU}
theorem jQ{e:Int}(h:PgQ src ns e)(d:iQ ns):(Ip (FX 200 (EG src)).1).length≤100000:=by
 rw[(VW h).2];exact Nat.le_trans (Qp ns) d.2.1
theorem WC(x:Cn):(jI x).length=4:=rfl
end Go.SP
namespace Go.Proofs.YtnojaendcldjpaaGreatDoor
open Go.SW Go.SP Go.RowKit Go.Proofs.Tryz
theorem qcon:eO prog 54=true:=kR
theorem X7:∀p∈AQ,p.2.2.kids.size≤100:=dC
theorem S8(w:wO)(f:Fq)(hv:Vl w f)(hJ:Dm w f)(hG:Iu w f)(src:lU) :
   AX prog 3 #[S src] w (AU (α:=Unit) (λ_=>.bool true) (λ_=>True) (λ_=>[]) w f):=by
 have hpl:AQ.length≤100:=dC;refine Ed [λw f=>Dm w f,λw f=>Iu w f] func3 C C C (Be hv ⟨hJ,hG,tQ⟩ ⟨Dm.mono,Iu.mono,tQ⟩)<|Aa 13 (λ_=>Ap 17 C C (λD=>?_) (λD=>?_));exact Aa 3 (λ_=>BO C C (eC pS C C) (λw f d=>Mv w f d.vl d.f0 d.f1)<|Aa 5 (λ_=>A5 (Cb C C) (λw f d=>⟨(),f,C,tQ,d.exm,tQ⟩)));refine Aa 4 (λ_=>?_);have U:src.length≤60000:=by have:=dF D;omega
 refine Aa 1 (λ_=>CR C C (eC oL C C) (λw f d=>Oz w f d.vl d.f1) (λx=>⟨IE.mono,tQ⟩) ?_);rintro⟨W,pc⟩ -;refine CR C C (eC qent6 C C) (λw f d=>sX w f d.vl) (λx=>⟨IE.mono,tQ⟩) ?_;rintro⟨Y,qc⟩ -;refine Aa 7 (λ_=>BO C C (eC pS C C) (λw f d=>Mv w f d.vl d.f2 d.f3)<|Aa 10 (λ_=>Ap 29 C C (λF=>?_) (λF=>?_)));simp at F;refine Aa 10 (λ_=>?_);refine DK (α:=Nat) (λi=>AQ.length-i) (λi=>i≤AQ.length) (λi=>(E4 0 (S src) 3 (.slice W AQ.length pc) 4 (.slice Y AQ.length qc) 5 (.int .i64 (i:Int)))) (λi=>X0 w f) (λi=>[]) (λi=>[]) (λi=>[]) (λi=>[λw f=>IE w f AQ W pc,λw f=>IE w f AQ Y qc,λw f=>Dm w f,λw f=>Iu w f]) (0) (Nat.zero_le _) lE (λw f d=>d.less sR sR nE (mR [1,0,2,3])) ?_;rintro i hi;refine Aa 9 (λ_=>Ap 33 C C (λK=>?_) (λK=>?_));refine Aa 6 (λ_=>?_);have G:i<AQ.length:=by have:=dT K;omega
 obtain⟨p,Z⟩:∃p,AQ[i]?=some p:=⟨_,List.getElem?_eq_getElem G⟩;have hps:=X7 p (List.mem_of_getElem? Z);refine Hh (α:=Nat×Nat×oA×Nat) (λx=>W=some ⟨x.1,x.2.1,none⟩) (λx=>[⟨x.1,x.2.1+i*6,pC p x.2.2.1 x.2.2.2⟩]) (λx=>[λw f=>Al w f p.2.2.kids x.2.2.1 x.2.2.2]) (λw f d=>let ⟨b,off,ka,kc,D,F,K⟩:=IE.get d.f0 Z;⟨(b,off,ka,kc),D,(oE F),AR.mem ⟨K,tQ⟩⟩) (λx=>Au.mem ⟨Al.mono,tQ⟩) ?_;rintro⟨eb,eo,ka,kc⟩ rfl;refine Hh (α:=Nat×Nat×oA×Nat) (λx=>Y=some ⟨x.1,x.2.1,none⟩) (λx=>[⟨x.1,x.2.1+i*6,pC p x.2.2.1 x.2.2.2⟩]) (λx=>[λw f=>Al w f p.2.2.kids x.2.2.1 x.2.2.2]) (λw f d=>let ⟨b,off,ka,kc,D,F,K⟩:=IE.get d.f2 Z;⟨(b,off,ka,kc),D,(oE F),AR.mem ⟨K,tQ⟩⟩) (λx=>Au.mem ⟨Al.mono,tQ⟩) ?_;rintro⟨eb2,eo2,ka2,kc2⟩ rfl;refine Cq [] Aj (rd [0,1,2,3,4,5,6,7,8,9,10,11,12,13,14,15,16,17,18,19,20,21,22,23,24,25,26,27,28,29,31,32,33,34,35] (.br 30 (.br 36 (.rd 37 (.rd 38 .fin)) .fin) .fin)) C kR<|By 12 [101,0,100,0] (And.intro oM<|y2<|And.intro oM<|y2<|λ_=>Iy 47 C (λL=>?_) (λL=>?_));simp at L;refine By 13 [101,1,100,1] (And.intro oM<|y2<|And.intro oM<|y2<|λ_=>Iy 60 C (λO=>?_) (λO=>?_));simp at O;refine By 10 [101,2,100,2] (And.intro oM<|y2<|And.intro oM<|y2<|λ_=>Ak C<|CR C C (eC cB C C) (λw f d=>qG (p.2.2.kids.size+1) w f d.vl p.2.2 ka kc (Nat.lt_succ_self _) oM d.f1) (λx=>⟨Al.mono,tQ⟩) ?_);rintro⟨ya,yc⟩ -;dsimp only;exact Aa 1 (λ_=>Ar [] C<|Ak C<|BO C C (eC pA C C) (λw f d=>nT (p.2.2.kids.size+1) w f d.vl p.2.2 ya yc ka2 kc2 (Nat.lt_succ_self _) oM d.f0 d.f1)<|Aa 1 (λ_=>Ar [] C<|Bf 2 (λ_=>BG<|Aa 10 (And.intro ⟨oM,oM⟩<|λ_=>Ce (i+1) (show AQ.length-(i+1)<AQ.length-i by omega) (show i+1≤_ by omega) lE (λw f d=>⟨_,d.less sR sR nE (mR [3,4,5,6])⟩)))));refine Aa 3 (λ_=>Df<|Aa 5 (λ_=>CR C C (eC pT C C) (λw f d=>T4 w f d.vl d.f2 src) (λx=>⟨Bc.mono,tQ⟩) ?_));rintro⟨na,nc⟩ -;dsimp only;refine Ae 13 [0] (λb1=>y<|λ_=>CR C C (eC rI C C) (λw f d=>cS w f d.vl src U) (λx=>⟨Dc.mono,RH.mono,tQ⟩) ?_);rintro⟨ns,ra,rc,e1,e2,er⟩ ⟨hq,hn⟩;dsimp only at hq hn ⊢;obtain⟨J,hcn⟩:(Ci src).2.2.2=er∧Ip (Ci src).1=_:=VW hq;have Q:=jQ hq hn;refine Ae 13 [0] (λb2=>y<|λ_=>CR C C (eC aZ C C) (λw f d=>sA w f d.vl (Ci src).1 na nc (Se src).1 (Se src).2 Q d.f2) (λx=>⟨Dc.mono,tQ⟩) ?_);rintro⟨ca,cc⟩ -;dsimp only;refine Aa 1 (λ_=>CR C C (eC xI C C) (λw f d=>rY w f d.vl ns ra rc hn d.f1 d.f2) (λx=>⟨Dc.mono,tQ⟩) ?_);rintro⟨da,dc⟩ -;dsimp only;rw[← hcn];have hcnl:(Gg++Ip (Ci src).1).length≤100008:=by rw[List.length_append];have h7:Gg.length=8:=rfl;have h8:(Ip (Ci src).1).length≤100000:=Q;omega
 refine Aa 11 (λ_=>Ap 94 C C (λL=>?_) (λL=>?_));exact absurd J (LU L);refine Aa 8 (λ_=>Ap 100 C C (λO=>?_) (λO=>?_));simp at O;refine Aa 10 (λ_=>?_);refine DK (α:=Nat) (λi=>(Gg++Ip (Ci src).1).length-i) (λi=>i≤(Gg++Ip (Ci src).1).length) (λi=>(E3 12 (.slice ca (Gg++Ip (Ci src).1).length cc) 13 (.slice da (Gg++Ip (Ci src).1).length dc) 14 (.int .i64 (i:Int)))) (λi=>X0 w f) (λi=>[]) (λi=>[]) (λi=>[]) (λi=>[λw f=>Dc jI w f (Gg++Ip (Ci src).1) ca cc,λw f=>Dc jI w f (Gg++Ip (Ci src).1) da dc]) (0) (Nat.zero_le _) lE (λw f d=>d.less (sD (sD sZ)) sR nE (mR [1,0])) ?_;rintro i hi;refine Aa 9 (λ_=>Ap 104 C C (λh6=>?_) (λh6=>?_));refine Aa 6 (λ_=>?_);have G:i<(Gg++Ip (Ci src).1).length:=by have:=dT h6;omega
 obtain⟨x,hx⟩:∃v,(Gg++Ip (Ci src).1)[i]?=some v:=⟨_,List.getElem?_eq_getElem G⟩;refine Hh (α:=Nat×Nat) (λz=>ca=some ⟨z.1,z.2,none⟩) (λz=>[⟨z.1,z.2+i*4,[S x.1,S x.2.1,.int .i64 (x.2.2.1:Int),.int .i64 (x.2.2.2:Int)]⟩]) (λz=>[]) (λw f d=>let ⟨b,off,D,F⟩:=Dc.get 4 WC d.f0 hx;⟨(b,off),D,(oE F),λ_ h=>by cases h⟩) (λz=>Au.mem tQ) ?_;rintro⟨eb,eo⟩ rfl;refine Hh (α:=Nat×Nat) (λz=>da=some ⟨z.1,z.2,none⟩) (λz=>[⟨z.1,z.2+i*4,[S x.1,S x.2.1,.int .i64 (x.2.2.1:Int),.int .i64 (x.2.2.2:Int)]⟩]) (λz=>[]) (λw f d=>let ⟨b,off,D,F⟩:=Dc.get 4 WC d.f1 hx;⟨(b,off),D,(oE F),λ_ h=>by cases h⟩) (λz=>Au.mem tQ) ?_;rintro⟨eb2,eo2⟩ rfl;exact Cq [] Aj (rd [0,1,2,3,4,5,6,7,8,9,10,11,12,13,14,15,16,17,18,19,20,21,22,23,24,25] .fin) C kR<|By 25 [101,0,101,1,101,2,101,3,100,0] (And.intro oM<|y2<|And.intro oM<|y2<|And.intro oM<|y2<|And.intro oM<|y2<|And.intro oM<|y2<|λ_=>Iz C C C (λw hK=>Zl qcon C C)<|BG<|Aa 10 (And.intro ⟨oM,oM⟩<|λ_=>Ce (i+1) (show (Gg++Ip (Ci src).1).length-(i+1)<(Gg++Ip (Ci src).1).length-i by omega) (show i+1≤_ by omega) lE (λw f d=>⟨_,d.less .slnil sR nE (mR [0,1])⟩)));exact Aa 3 (λ_=>Df<|Aa 8 (λ_=>A5 (Cb C C) (λw f d=>⟨(),f,C,tQ,d.exm,tQ⟩)))
end Go.Proofs.YtnojaendcldjpaaGreatDoor
namespace Go.Proofs.YtnojaendcldjpaaGreatDoor.Tables
open Go.SW Go.SP Go.RowKit Go.Lib Go.ChangeShapes Go.WideShapes Go.ChangeAt Go.ChangeMaps
set_option maxRecDepth 100000 in
theorem cF(H:Type)(enc:TypeId×Value→H)(W:World)(base:Nat)(args:Array Value)(ds gs:List (DataW H))(before:List MemPlace)
   (hval:∀(j:Nat) t v,Tryz.f3.params[j]?=some t→args[j]?=some v→Value.okWide Tryz.prog W .any base t v)
   (hW:DataW.Whole enc Tryz.prog Tryz.f3.params.toList Rows.inferTablesSpec.vars false W args.toList ds gs before) (hL:laidMetH Tryz.prog Rows.inferTablesRow.laid W) (hS:W.ShapedOpen Tryz.prog) :
   Calls Tryz.prog 3 args W λe W'=>∃v,e=.returned v∧Rows.inferTablesSpec.post enc Tryz.prog Tryz.f3 false true false false W args v W':=by
 have hW':=hW;obtain⟨p,q,hA0,hV,rfl,hfz,hnd⟩:=hW;have hA:DataW.TrodAll enc Tryz.prog W 0 (λ_=>true) true Tryz.f3.params.toList args.toList ds p:=hA0;rw[Tryz.params3] at hA hval;obtain⟨v0,vs0,d0,ds0,p0,q0,hargs0,rfl,rfl,h0,r0⟩:=trodAll_cons hA;obtain⟨rfl,rfl,rfl⟩:=trodAll_nil r0
 obtain rfl:args=#[v0]:=by
   obtain⟨l⟩:=args;exact congrArg Array.mk (hargs0)
 obtain⟨rfl,rfl⟩:=trodVars_none hV;obtain⟨⟨⟨x0⟩⟩,rfl,rfl,rfl,wx0⟩:=open_string Tryz.underlying9 (hval 0 9 v0 C C) h0;clear hA0;simp only[List.append_nil] at hW';refine Calls.mono (eP (S8 W (oY W) (wU W) (pX hL hS).1 (pX hL hS).2 x0)) ?_;rintro e W' ⟨v,rfl,rfl,hb⟩;exact⟨_,C,_,_,_,[],[],[],hW',trodAll_cons_mk (shut_bool Tryz.underlying4 _) trodAll_mk0,trodAll_cons_mk (shut_string Tryz.underlying9 wx0) trodAll_mk0,C,hb.frame _,λh=>by cases h⟩
noncomputable def lw(os:Os):World:=World.laidAll Tryz.prog os Rows.inferTablesRow.laid
theorem dE(os:Os):laidMetH Tryz.prog Rows.inferTablesRow.laid ((lw os).forCall (λ_ _=>0) ⟨#[],#[Value.string ⟨#[]⟩],[]⟩).memory:=by
 rw[MakeChecks.laidMetH_plain _ _ _ (by kernel_rfl)];exact laidMet_laidAll _ kR kR
theorem reads(os:Os){H:Type}(enc:TypeId×Value→H):∃places,DataW.whole enc Tryz.prog ((lw os).forCall (λ_ _=>0) ⟨#[],#[Value.string ⟨#[]⟩],[]⟩).memory Tryz.f3.params.toList Rows.inferTablesSpec.vars false (#[Value.string ⟨#[]⟩]:Array Value).toList 8=some ([.lit (.string [])],[],places) :=
 ⟨[],kR⟩
set_option maxRecDepth 100000 in
theorem lifted(os:Os)(started:os.Started)(H:Type)(enc:TypeId×Value→H)(F:Stop.Interp) :
   ReturnsInHanded {} Tryz.checked os 3 .any ((OpenSpec.ofChange Rows.inferTablesSpec).preRow enc Tryz.prog Tryz.f3 Rows.inferTablesRow.domain false Rows.inferTablesRow.laid) (((OpenSpec.ofChange Rows.inferTablesSpec).at F).post enc Tryz.prog Tryz.f3 false true false false):=by
 obtain⟨places,hx⟩:=reads os enc
 refine returnsInHanded_of_row (C:=Tryz.checked) (s:=OpenSpec.ofChange Rows.inferTablesSpec) own started kR Tryz.func3
   ⟨lw os,λ_ _=>0,⟨#[],#[Value.string ⟨#[]⟩],[]⟩,World.laidAll_os _ _ _,World.shaped_of_ZipB kR kR,rfl,(Input.okWide_of_okWideB kR).2,
     OpenSpec.preRow_of_cond 8 hx kR (λk hk=>by cases hk) kR (dE os),by simp[Assume.holds]⟩ ?_
 intro W base args ds gs before hval hW _ _ _ hL hS _;exact cF H enc W base args ds gs before hval hW hL hS
abbrev jc:=Rows.inferTablesRow
abbrev js:=(OpenSpec.ofChange Rows.inferTablesSpec).bare
theorem jT{a b:Bool}(h:a=true)(k:b=true):(a&&b)=true:=by rw[h,k];rfl
theorem jL{a b:Bool}(h:(a&&b)=true):a=true:=((Bool.and_eq_true a b).mp h).1
theorem jR{a b:Bool}(h:(a&&b)=true):b=true:=((Bool.and_eq_true a b).mp h).2
theorem j0:((jc.wf (OpenSpec.ofChange js))&&(laidOutB Tryz.pinned.checked.prog)&&(mapsRowed Tryz.pinned.checked.prog)&&(Tryz.f3.params.all (Tryz.pinned.checked.prog.readableRec ·))&&(namedTie Tryz.pinned.checked.prog jc.named js.vars)&&((jc.stops==[]))&&((Tryz.pinned.checked.prog.stops==[]))&&((jc.knobs==[]))&&((Tryz.pinned.checked.prog.stopKnobs==[])))=true:=kR
theorem j1:(((jc.inPlace==Tryz.pinned.checked.prog.inPlace 3))&&((jc.unfollowed==Tryz.pinned.checked.prog.unfollowed 3))&&((jc.recurses==Tryz.pinned.checked.prog.recurses 3))&&((jc.named==Tryz.pinned.checked.prog.varsNamed 3)))=true:=kR
theorem j2:(((jc.maps==(Tryz.f3.params.toList++js.plain.varTypes Tryz.pinned.checked.prog).any (Tryz.pinned.checked.prog.mapsRec ·)))&&((jc.ifaces==(Tryz.f3.params.toList++js.plain.varTypes Tryz.pinned.checked.prog).any (Tryz.pinned.checked.prog.ifacesRec ·)))&&((jc.mapsOut==Tryz.pinned.checked.prog.mapsAmong Tryz.f3.resultTypes.toList))&&((jc.loops==(Tryz.f3.params.toList++js.plain.varTypes Tryz.pinned.checked.prog).any (Tryz.pinned.checked.prog.loopsFrom ·)))&&((jc.wideKeys==(Tryz.f3.params.toList++js.plain.varTypes Tryz.pinned.checked.prog++Tryz.f3.resultTypes.toList).any (Tryz.pinned.checked.prog.wideKeysFrom ·)))&&(js.vars.all (Tryz.pinned.checked.prog.varReadable ·)))=true:=kR
theorem j3:((Tryz.f3.resultTypes.all (λt=>Tryz.pinned.checked.prog.readableRec t&&decide (t < Tryz.pinned.checked.prog.types.size)))&&((jc.ifacesOut==Tryz.f3.resultTypes.toList.any (Tryz.pinned.checked.prog.ifacesRec ·)))&&((jc.loopsOut==Tryz.f3.resultTypes.toList.any (Tryz.pinned.checked.prog.loopsFrom ·)))&&((jc.plainKeys==Tryz.pinned.checked.prog.plainKeys))&&(jc.shortTexts.isNone)&&(Tryz.pinned.checked.prog.stopsHeard)&&(Tryz.pinned.checked.prog.mayEnter)&&((jc.lifted==Tryz.pinned.checked.prog.liftsFinal))&&((Tryz.pinned.checked.prog.make==some jc.make))&&((jc.kinds==(if jc.domain.isEmpty then [] else Tryz.f3.params.toList.map λt=>match Tryz.pinned.checked.prog.underlying t with|some (.int k)=>some k|_=>none)))&&((jc.pinned==jc.pinnedBy))&&((jc.veiled==(Tryz.f3.params.toList++js.plain.varTypes Tryz.pinned.checked.prog++Tryz.f3.resultTypes.toList).any (Tryz.pinned.checked.prog.veiledRec ·)))&&(jc.veiledFits Tryz.pinned.checked.prog Tryz.f3.params.toList (Tryz.f3.params.toList++js.plain.varTypes Tryz.pinned.checked.prog++Tryz.f3.resultTypes.toList)))=true:=kR
set_option maxRecDepth 100000 in
theorem jAll:joinedFacts Tryz.pinned.checked.prog 3 Tryz.f3 (OpenSpec.ofChange Rows.inferTablesSpec).bare Rows.inferTablesRow=true:=(jT (jT (jT (jT (jT (jT (jT (jT (jT (jT (jT (jT (jT (jT (jT (jT (jT (jT (jT (jT (jT (jT (jT (jT (jT (jT (jT (jT (jT (jT (jT (jL (jL (jL (jL (jL (jL (jL (jL j0)))))))) (jR (jL (jL (jL (jL (jL (jL (jL j0))))))))) (jR (jL (jL (jL (jL (jL (jL j0)))))))) (jR (jL (jL (jL (jL (jL j0))))))) (jR (jL (jL (jL (jL j0)))))) (jR (jL (jL (jL j0))))) (jR (jL (jL j0)))) (jR (jL j0))) (jR j0)) (jL (jL (jL j1)))) (jR (jL (jL j1)))) (jR (jL j1))) (jR j1)) (jL (jL (jL (jL (jL j2)))))) (jR (jL (jL (jL (jL j2)))))) (jR (jL (jL (jL j2))))) (jR (jL (jL j2)))) (jR (jL j2))) (jR j2)) (jL (jL (jL (jL (jL (jL (jL (jL (jL (jL (jL (jL j3))))))))))))) (jR (jL (jL (jL (jL (jL (jL (jL (jL (jL (jL (jL j3))))))))))))) (jR (jL (jL (jL (jL (jL (jL (jL (jL (jL (jL j3)))))))))))) (jR (jL (jL (jL (jL (jL (jL (jL (jL (jL j3))))))))))) (jR (jL (jL (jL (jL (jL (jL (jL (jL j3)))))))))) (jR (jL (jL (jL (jL (jL (jL (jL j3))))))))) (jR (jL (jL (jL (jL (jL (jL j3)))))))) (jR (jL (jL (jL (jL (jL j3))))))) (jR (jL (jL (jL (jL j3)))))) (jR (jL (jL (jL j3))))) (jR (jL (jL j3)))) (jR (jL j3))) (jR j3))
theorem said:Rows.InferTablesSaid :=
 OpenClaim.holds_of_cond 3 Tryz.f3 C C C C C C C ⟨C,C,C,C,C⟩ C C C C C kR Tryz.func3 jAll
   (of_decide_eq_true kR) (by unfold Func.isWrapper;first|(rw[if_pos (by decide +kernel)];kernel_rfl)|(rw[if_neg (by decide +kernel)];exact⟨C,C⟩))
   (λos started H enc _ F=>by rw[OpenClaim.pre_eq_preRow];exact lifted os started H enc F)
theorem plain(f:FuncId)(fn:Func)(hf:Tryz.pinned.checked.prog.funcNamed Rows.inferTablesRow.func=some f)(hfn:Tryz.pinned.checked.prog.funcs[f]?=some fn) :
   true=Tryz.pinned.checked.prog.looks []∧∀(j:Nat) t,fn.params[j]?=some t→Tryz.pinned.checked.prog.wantsStandIn t=false:=by
 obtain rfl:f=3:=Option.some.inj ((show Tryz.prog.funcNamed Rows.inferTablesRow.func=some 3 by kernel_rfl).symm.trans hf) |>.symm;obtain rfl:fn=Tryz.f3:=(Option.some.inj (Tryz.func3.symm.trans hfn)).symm;refine⟨kR,λj t ht=>?_⟩;rw[Tryz.params3] at ht;have hm:=Array.mem_of_getElem? ht;have ht2:t=9:=by simpa using hm
 rcases ht2 with rfl
 · exact (show Tryz.prog.wantsStandIn 9=false by kernel_rfl)
end Go.Proofs.YtnojaendcldjpaaGreatDoor.Tables
namespace Go.Proofs.YtnojaendcldjpaaGreatDoor
theorem tables_card:Rows.InferTablesCardSaid :=
 Claim7.holds_tied_plain_at .later [] _ _ _ _ Tables.said (λ_ h=>by cases h) kR (λ_ h=>by cases h) inferTables_row_tie C ⟨C,C⟩ kR C Tables.plain kR
end Go.Proofs.YtnojaendcldjpaaGreatDoor
