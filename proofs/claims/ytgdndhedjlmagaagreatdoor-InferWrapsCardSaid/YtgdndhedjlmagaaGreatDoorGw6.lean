/- What it rests on, part 6. -/
import Derived.Test.YtgdndhedjlmagaaGreatDoorGw5
import Derived.Test.YtgdndhedjlmagaaGreatDoorCards
import Derived.Test.YtgdndhedjlmagaaGreatDoorTie
import Derived.OpenShut
import Derived.Lib.LaidU8
import Derived.Clock
import Derived.ProofKit
import Derived.Lay
import Derived.Stop.Joined
import Derived.Deep.DeepHandedRow
set_option linter.unusedVariables false
set_option linter.unusedSimpArgs false
namespace Go.Proofs.YtgdndhedjlmagaaGreatDoor
open Go.SW Go.SP Go.RowKit Go.Proofs.Tryz
abbrev A16:=Nat×Nat×Nat×Nat×(oA×Nat)×(oA×Nat)
abbrev Q3:=T1×oA×Nat
abbrev qI:Q3:=(c0 bI,none,0)
abbrev qF:Q3:=(c0 bF,none,0)
abbrev qS:Q3:=(c0 bS,none,0)
abbrev qB:Q3:=(c0 bB,none,0)
abbrev qU:Q3:=(c0 bU,none,0)
abbrev qV:Q3:=(.var 1,none,0)
abbrev qR(a:oA)(c:Nat):Q3:=(T1.con MD (T1.var 1).one,a,c)
abbrev qP(a:oA)(c:Nat):Q3:=(T1.con Dv (T1.var 1).one,a,c)
def pm(x:lU)(l:List Q3):SB:=(x,((UI l).len:Int)-1,Gf (UI l))
theorem kI:(c0 bI).bnd:=Dj dC
theorem kF:(c0 bF).bnd:=Dj dC
theorem kS:(c0 bS).bnd:=Dj dC
theorem kB:(c0 bB).bnd:=Dj dC
theorem kU:(c0 bU).bnd:=Dj dC
theorem kV:(T1.var 1).bnd:=B7 _
variable {Q:Bh}{σ:Bp}{f:Fq}{ds:List Deferred}{B:List FB}{fs:List Fr}{H H':List HB}{xs:lV}{b n n0 ob oc:Nat}{M:Nat→Prop}{g:Option (Nat×Bool)}{oa:oA}{T:tI}{w w0:wO}
theorem qN:Ai w f .nil none 0:=Ai.nil _ _ _ _
def Wp:List Nat→Nat→Bool
 | [],_=>false
 |a::l,b=>bif Nat.beq a b then true else Wp l b
def sU(c:Bool)(d:Nat)(v:Value)(σ:Bp):Bp:=bif c then AH σ d v else σ
def sL{α:Type}(c:Bool)(e:α)(l:List α):List α:=bif c then e::l else l
def Mm(b1 b2 b3 b4 b5 b6:Nat)(S:List Nat)(x:A16):Bp :=
 sU (Wp S 7) 8 (pB x.2.2.2.1)<|sU (Wp S 6) 7 (pB x.2.2.1)<|sU (Wp S 5) 22 (tV (T1.con Dv (T1.var 1).one) x.2.2.2.2.2.1 x.2.2.2.2.2.2)<|sU (Wp S 2) 19 (tV (T1.con MD (T1.var 1).one) x.2.2.2.2.1.1 x.2.2.2.2.1.2) <|
 sU (Wp S 4) 21 (.slice (some ⟨x.2.1,0,none⟩) 1 1)<|sU (Wp S 1) 18 (.slice (some ⟨x.1,0,none⟩) 1 1)<|E8 1 (pB b1) 2 (pB b2) 3 (pB b3) 4 (pB b4) 5 (pB b5) 6 (pB b6) 17 (tV (.var 1) none 0) 20 (tV (.var 1) none 0)
def Eb(b1 b2 b3 b4 b5 b6:Nat)(S:List Nat)(x:A16):List HB :=
 sL (Wp S 7) ⟨x.2.2.2.1,zT,68,true⟩<|sL (Wp S 6) ⟨x.2.2.1,zT,68,true⟩<|sL (Wp S 4&&!Wp S 5) ⟨x.2.1,tC (.var 1) none 0,68,true⟩<|sL (Wp S 1&&!Wp S 2) ⟨x.1,tC (.var 1) none 0,68,true⟩ [⟨b6,tC (.var 1) none 0,68,true⟩,⟨b5,tC (c0 bU) none 0,68,true⟩,⟨b4,tC (c0 bB) none 0,68,true⟩,⟨b3,tC (c0 bS) none 0,68,true⟩,⟨b2,tC (c0 bF) none 0,68,true⟩,⟨b1,tC (c0 bI) none 0,68,true⟩]
def f16(S:List Nat)(x:A16):List (wO→Fq→Prop) :=
 sL (Wp S 5) (λw f=>Ai w f (T1.var 1).one x.2.2.2.2.2.1 x.2.2.2.2.2.2)<|sL (Wp S 2) (λw f=>Ai w f (T1.var 1).one x.2.2.2.2.1.1 x.2.2.2.2.1.2) [λw f=>FD w f]
def C5:List SB:=[pm [43] [qI,qI,qI],pm [45] [qI,qI,qI],pm [42] [qI,qI,qI],pm [100,105,118] [qI,qI,qI],pm [109,111,100] [qI,qI,qI],pm [110,101,103] [qI,qI],pm [60] [qI,qI,qB],pm [60,61] [qI,qI,qB],pm [61] [qI,qI,qB],pm [102,43] [qF,qF,qF],pm [102,45] [qF,qF,qF],pm [102,42] [qF,qF,qF],pm [102,47] [qF,qF,qF],pm [102,115,113,114,116] [qF,qF],pm [102,110,101,103] [qF,qF],pm [102,60] [qF,qF,qB],pm [102,61] [qF,qF,qB],pm [102,97,104,101,97,100] [qF,qF,qB],pm [105,116,111,102] [qI,qF],pm [102,116,111,105] [qF,qI],pm [102,98,105,116,115] [qF,qS],pm [110,97,110] [qF],pm [105,110,102] [qF],pm [99,97,116] [qS,qS,qS],pm [108,101,110] [qS,qI],pm [111,114,100] [qS,qI],pm [97,116,111,105] [qS,qI],pm [115,117,98] [qS,qI,qI,qS],pm [115,61] [qS,qS,qB],pm [115,60] [qS,qS,qB],pm [105,116,111,97] [qI,qS],pm [99,104,114] [qI,qS],pm [112,114,105,110,116] [qS,qU],pm [114,101,97,100] [qU,qS],pm [114,101,102] [qV,(qR none 0)],pm [103,101,116] [(qR none 0),qV],pm [115,101,116] [(qR none 0),qV,qU],pm [110,101,119] [qV,(qP none 0)],pm [108,111,97,100] [(qP none 0),qV],pm [115,116,111,114,101] [(qP none 0),qV,qU]]
def iN:List (T1×oA×Nat)→Prop
 | []=>True
 |t::l=>t.1.bnd∧iN l
theorem QJ:∀{l:List (T1×oA×Nat)},iN l→(UI l).bnd
 | [],_=>trivial
 |_::_,h=>T1.bnd_cons.2 ⟨h.1,QJ h.2⟩
theorem H3{f0:Fq}{L:List (wO→Fq→Prop)}{all r:List Oper}{O:Operand}{args:List Operand}{ts:Array tI}{ty:tI}{AX:String}{af:Array Edge}{d:Nat}{G:lU}(U K:Nat)(D:List Q3)
  (W:ev σ O=some (.func (.func 78) #[] [Value.pointer (some ⟨ob,0,none⟩)].toArray)) (Y:Jd σ args=some [S G,.slice (some ⟨b,0,none⟩) D.length D.length]) (hg:gd all σ g=some true) (hd:Nat.blt d n=true) (hk:HY H U=some ⟨b,wW D,T,true⟩) (hs:LM H U=some H')
  (hG:∀w f H B,AU ⟨M,O4 ob oa,Eh 100 103 ob (.slice oa n0 oc) oa oc n0 xs,w0,f0⟩ w f H [] B ((λw f=>Dk w f (C5.take n0) xs)::L)→FD w f∧hoL w f D) (Z:iN D)
  (h:∀a c xs,A7 prog n Q ds ⟨M,O4 ob a,Eh 100 103 ob (.slice a K c) a c K xs,w0,f0⟩ [] B ((λw f=>Dk w f (C5.take K) xs)::L) (.ops all r) fs (AH σ d (.tuple #[])) H')
  (hp:C5.take n0++(Lib.fields G).map (λnm=>(nm,((UI D).len:Int)-1,Gf (UI D)))=C5.take K:=by kernel_rfl) (hn:n0+(Lib.fields G).length=K:=by kernel_rfl)
  (hc:(Nat.ble n0 1000&&(Nat.ble G.length 1000&&(G.all (λc=>decide (c.toNat<128))&&(Nat.ble (Lib.fields G).length 1000&&(Nat.blt 0 D.length&&Nat.ble D.length 1000)))))=true:=by kernel_rfl) :
  A7 prog n Q ds ⟨M,O4 ob oa,Eh 100 103 ob (.slice oa n0 oc) oa oc n0 xs,w0,f0⟩ [] B ((λw f=>Dk w f (C5.take n0) xs)::L) (.ops all (⟨some d,.call {callee:=.value O,args:=args.toArray,argTypes:=ts},ty,AX,af,g⟩::r)) fs σ H:=by
 simp only[Bool.and_eq_true] at hc;obtain⟨h1,h2,h3,h4,h5,h6⟩:=hc;have e:=Re D;have h5':0<(UI D).len:=by rw[e];exact Nat.le_of_ble_eq_true h5
 have h6':(UI D).len≤1000:=by rw[e];exact Nat.le_of_ble_eq_true h6
 subst hn;have he':∀w,SW.Enters prog σ (.call {callee:=.value O,args:=args.toArray,argTypes:=ts}) ty w 78 #[S G,.slice (some ⟨b,0,none⟩) (UI D).len D.length,pB ob]:=by rw[e];exact λ_=>W4 uL W Y
 refine Dg U hk hs<|DN (λw f=>Ai w f (UI D) (some ⟨b,0,none⟩) D.length) (λw f F=>Dy (hG w f _ _ F).2 F.b0) Ai.mono<|mG (XX:=λ_ _=>False) hg hd he' (λw f F=>(aG w f F.vl (hG w f _ _ (F.less sR sR (λ_ h=>h) (λ_ h=>.tail _ h))).1 ob oa oc n0 xs (C5.take n0) F.res F.f1 F.mz (Nat.le_of_ble_eq_true h1) G (Lib.fields G) C (Nat.le_of_ble_eq_true h2) h3 (Nat.le_of_ble_eq_true h4) (UI D) (some ⟨b,0,none⟩) D.length h5' h6' (QJ Z) F.f0).retP) (λ_=>Eh.stab) (λ_=>⟨Dk.mono,tQ⟩) (λ_ _ _ _ _ h=>h.elim) ?_;rintro⟨a,c,xs'⟩ -;refine λw f F=>h a c xs' w f ?_;rw[← hp];refine F.less sR sR (λe he=>.tail _ he) (λφ J=>?_);rcases List.mem_cons.1 J with rfl|J
 · exact .head _
 · exact .tail _ (.tail _ (.tail _ J))
def Tl:OT:=.br 9 .fin .fin
def IE:OT:=.br 8 Tl .fin
def Ij:OT:=.br 5 IE .fin
def J9:OT:=.br 2 Ij .fin
def Nr:OT:=.br 1 J9 .fin
def LL:OT:=.br 4 Ij .fin
def N0:OT:=.br 2 LL (.br 4 J9 .fin)
def VS:OT:=.br 1 N0 (.br 4 Nr .fin)
def M7:OT:=.br 6 IE .fin
def LI:OT:=.br 5 M7 (.br 6 Ij .fin)
def Ny:OT:=.br 2 LI (.br 6 J9 .fin)
def Ws:OT:=.br 1 Ny (.br 6 Nr .fin)
def Rr:OT:=.br 4 LI (.br 6 LL .fin)
def W1:OT:=.br 2 Rr (.br 4 Ny (.br 6 N0 .fin))
def oO:OT:=.br 1 W1 (.br 4 Ws (.br 6 VS .fin))
def M1:OT:=.br 7 IE .fin
def LO:OT:=.br 5 M1 (.br 7 Ij .fin)
def Nw:OT:=.br 2 LO (.br 7 J9 .fin)
def Vr:OT:=.br 1 Nw (.br 7 Nr .fin)
def QN:OT:=.br 4 LO (.br 7 LL .fin)
def W6:OT:=.br 2 QN (.br 4 Nw (.br 7 N0 .fin))
def oH:OT:=.br 1 W6 (.br 4 Vr (.br 7 VS .fin))
def S9:OT:=.br 6 M1 (.br 7 M7 .fin)
def RG:OT:=.br 5 S9 (.br 6 LO (.br 7 LI .fin))
def Vj:OT:=.br 2 RG (.br 6 Nw (.br 7 Ny .fin))
def pZ:OT:=.br 1 Vj (.br 6 Vr (.br 7 Ws .fin))
def aS:OT:=.br 4 RG (.br 6 QN (.br 7 Rr .fin))
def pN:OT:=.br 2 aS (.br 4 Vj (.br 6 W6 (.br 7 W1 .fin)))
def t16_:OT:=.br 1 pN (.br 4 pZ (.br 6 oH (.br 7 oO .fin)))
set_option maxHeartbeats 2000000 in
theorem WI(w:wO)(f:Fq)(hv:Vl w f)(hG:FD w f) :
  BF prog 51 #[] w (Ce (α:=oA×Nat) (λx=>.slice x.1 C5.length x.2) (λ_=>True) (λx=>[λw f=>VP w f C5 x.1 x.2]) w f):=by
 refine Df (X:=X0 w f) (H:=[]) (R:=[]) (B:=[]) (Fs:=[λw f=>FD w f]) (f:=f) func51 C C C (CC hv ⟨hG,tQ⟩ ⟨FD.mono,tQ⟩)<|Aa 7 [] (λ_=>BA C C (eC B4 C C) (λw f D=>Bu w f D.vl [105,110,116]) (λx=>trivial) ?_);rintro⟨⟩ -;refine BA C C (eC B4 C C) (λw f D=>Bu w f D.vl [102,108,111,97,116]) (λx=>trivial) ?_;rintro⟨⟩ -;refine BA C C (eC B4 C C) (λw f D=>Bu w f D.vl [115,116,114,105,110,103]) (λx=>trivial) ?_;rintro⟨⟩ -;refine BA C C (eC B4 C C) (λw f D=>Bu w f D.vl [98,111,111,108]) (λx=>trivial) ?_;rintro⟨⟩ -;refine BA C C (eC B4 C C) (λw f D=>Bu w f D.vl [117,110,105,116]) (λx=>trivial) ?_;rintro⟨⟩ -;refine Aa 14 [4,3,2,1,0] (λb1=>λb2=>λb3=>λb4=>λb5=>y<|y<|y<|y<|y<|λ_=>BA C C (eC Hr C C) (λw f D=>Ej w f D.vl 1) (λx=>trivial) ?_);rintro⟨⟩ -;refine Aa 5 [0] (λb6=>y<|λ_=>?_);refine YJ (α:=Nat×Nat×(oA×Nat)×(oA×Nat)) (λx=>True) (λx=>(E8 1 (pB b1) 2 (pB b2) 3 (pB b3) 4 (pB b4) 5 (pB b5) 6 (pB b6) 7 (pB x.1) 8 (pB x.2.1))) (λx=>X0 w f) (λx=>[⟨x.2.1,tC (T1.con Dv (T1.var 1).one) x.2.2.2.1 x.2.2.2.2,68,true⟩,⟨x.1,tC (T1.con MD (T1.var 1).one) x.2.2.1.1 x.2.2.1.2,68,true⟩,⟨b6,tC (.var 1) none 0,68,true⟩,⟨b5,tC (c0 bU) none 0,68,true⟩,⟨b4,tC (c0 bB) none 0,68,true⟩,⟨b3,tC (c0 bS) none 0,68,true⟩,⟨b2,tC (c0 bF) none 0,68,true⟩,⟨b1,tC (c0 bI) none 0,68,true⟩]) (λx=>[]) (λx=>[]) (λx=>[λw f=>Ai w f (T1.var 1).one x.2.2.2.1 x.2.2.2.2,λw f=>Ai w f (T1.var 1).one x.2.2.1.1 x.2.2.1.2,λw f=>FD w f]) ?_ ?_;refine Dh [0,1,2,3,4,5] Aq (.rd 0 (.rd 3 t16_)) C kR<|A9 2 [0,0] (y<|y<|λ_=>Ml IE (Mm b1 b2 b3 b4 b5 b6 [1,2,4,5,6,7]) (Eb b1 b2 b3 b4 b5 b6 [1,2,4,5,6,7]) (λ_=>[]) (f16 [1,2,4,5,6,7]) ?_ (λW=>?_))
 ·
  rintro⟨F,G,b7,O,⟨L,rc⟩,⟨J,K⟩⟩;refine Ah C ?_ Aj;refine Aa 2 [1] (y<|λ_=>Az [2,3,4,5,6,7] C<|Ah C ?_ Aj);exact Aa 2 [0] (y<|λ_=>Az [2,3,4,5,6,7] C<|Bx<|Mn (b7,O,(L,rc),(J,K)) tQ lE (λw f D=>⟨f,D⟩))
 refine Ml M7 (Mm b1 b2 b3 b4 b5 b6 [1,2,4,5,7]) (Eb b1 b2 b3 b4 b5 b6 [1,2,4,5,7]) (λ_=>[]) (f16 [1,2,4,5,7]) ?_ (λhS12457=>?_)
 ·
  rintro⟨F,G,b7,O,⟨L,rc⟩,⟨J,K⟩⟩;refine Ah C ?_ Aj;exact Aa 2 [] (λq=>λ_=>Az [2,3,4,5,6,7] C<|Fx W (F,G,q,O,(L,rc),(J,K)) lE (λw f D=>D.perm (List.perm_middle (l₁:=[_]))))
 refine Ml M1 (Mm b1 b2 b3 b4 b5 b6 [1,2,4,5,6]) (Eb b1 b2 b3 b4 b5 b6 [1,2,4,5,6]) (λ_=>[]) (f16 [1,2,4,5,6]) ?_ (λhS12456=>?_)
 ·
  rintro⟨F,G,b7,O,⟨L,rc⟩,⟨J,K⟩⟩;refine Ah C ?_ Aj;exact Aa 2 [] (λq=>λ_=>Az [2,3,4,5,6,7] C<|Fx W (F,G,b7,q,(L,rc),(J,K)) lE (λw f D=>D))
 refine Ml Ij (Mm b1 b2 b3 b4 b5 b6 [1,2,4,6,7]) (Eb b1 b2 b3 b4 b5 b6 [1,2,4,6,7]) (λ_=>[]) (f16 [1,2,4,6,7]) ?_ (λU=>?_)
 ·
  rintro⟨F,G,b7,O,⟨L,rc⟩,⟨J,K⟩⟩;refine Ah C ?_ Aj;refine Dg 2 C C<|DN (λw f=>Ai w f (T1.var 1).one (some ⟨G,0,none⟩) 1) (λw f D=>Dy (l:=[(.var 1,none,0)]) ⟨Ai.nil _ _ _ _,tQ⟩ D.b0) Ai.mono<|BA C C (eC B4 C C) (λw f D=>Dc w f D.vl Dv (T1.var 1).one (some ⟨G,0,none⟩) 1 dC D.f0) (λ_=>⟨Ai.mono,tQ⟩) ?_;rintro⟨Z,qc⟩ -;exact Aa 1 [] (λ_=>Bl [2,3,4,5,6,7] Fy C (λ_ h=>.tail _ h)<|Fx W (F,G,b7,O,(L,rc),(Z,qc)) lE (λw f D=>D.less sR sR nE (mR [0,2,3])))
 refine Ml LI (Mm b1 b2 b3 b4 b5 b6 [1,2,4,7]) (Eb b1 b2 b3 b4 b5 b6 [1,2,4,7]) (λ_=>[]) (f16 [1,2,4,7]) ?_ (λhS1247=>?_)
 ·
  rintro⟨F,G,b7,O,⟨L,rc⟩,⟨J,K⟩⟩;refine Ah C ?_ ?_;refine Dg 1 C C<|DN (λw f=>Ai w f (T1.var 1).one (some ⟨G,0,none⟩) 1) (λw f D=>Dy (l:=[(.var 1,none,0)]) ⟨Ai.nil _ _ _ _,tQ⟩ D.b0) Ai.mono<|BA C C (eC B4 C C) (λw f D=>Dc w f D.vl Dv (T1.var 1).one (some ⟨G,0,none⟩) 1 dC D.f0) (λ_=>⟨Ai.mono,tQ⟩) ?_;rintro⟨Z,qc⟩ -;exact Aa 1 [] (λ_=>Bl [1,2,3,4,5,6] Fy C (λ_ h=>.tail _ h)<|Fx hS12457 (F,G,b7,O,(L,rc),(Z,qc)) lE (λw f D=>D.less sR sR nE (mR [0,2,3])));refine Ah C ?_ Aj;exact Aa 2 [] (λq=>λ_=>Az [3,4,5,6,7,8] C<|Fx U (F,G,q,O,(L,rc),(J,K)) lE (λw f D=>D.perm (List.perm_middle (l₁:=[_]))))
 refine Ml LL (Mm b1 b2 b3 b4 b5 b6 [1,2,6,7]) (Eb b1 b2 b3 b4 b5 b6 [1,2,6,7]) (λ_=>[]) (f16 [1,2,6,7]) ?_ (λhS1267=>?_)
 ·
  rintro⟨F,G,b7,O,⟨L,rc⟩,⟨J,K⟩⟩;refine Ah C ?_ Aj;exact Aa 2 [] (λq=>λ_=>Az [3,4,5,6,7,8] C<|Fx U (F,q,b7,O,(L,rc),(J,K)) lE (λw f D=>D.perm (List.perm_middle (l₁:=[_,_]))))
 refine Ml LO (Mm b1 b2 b3 b4 b5 b6 [1,2,4,6]) (Eb b1 b2 b3 b4 b5 b6 [1,2,4,6]) (λ_=>[]) (f16 [1,2,4,6]) ?_ (λhS1246=>?_)
 ·
  rintro⟨F,G,b7,O,⟨L,rc⟩,⟨J,K⟩⟩;refine Ah C ?_ ?_;refine Dg 1 C C<|DN (λw f=>Ai w f (T1.var 1).one (some ⟨G,0,none⟩) 1) (λw f D=>Dy (l:=[(.var 1,none,0)]) ⟨Ai.nil _ _ _ _,tQ⟩ D.b0) Ai.mono<|BA C C (eC B4 C C) (λw f D=>Dc w f D.vl Dv (T1.var 1).one (some ⟨G,0,none⟩) 1 dC D.f0) (λ_=>⟨Ai.mono,tQ⟩) ?_;rintro⟨Z,qc⟩ -;exact Aa 1 [] (λ_=>Bl [1,2,3,4,5,6] Fy C (λ_ h=>.tail _ h)<|Fx hS12456 (F,G,b7,O,(L,rc),(Z,qc)) lE (λw f D=>D.less sR sR nE (mR [0,2,3])));refine Ah C ?_ Aj;exact Aa 2 [] (λq=>λ_=>Az [3,4,5,6,7,8] C<|Fx U (F,G,b7,q,(L,rc),(J,K)) lE (λw f D=>D))
 refine Ml S9 (Mm b1 b2 b3 b4 b5 b6 [1,2,4,5]) (Eb b1 b2 b3 b4 b5 b6 [1,2,4,5]) (λ_=>[]) (f16 [1,2,4,5]) ?_ (λhS1245=>?_)
 ·
  rintro⟨F,G,b7,O,⟨L,rc⟩,⟨J,K⟩⟩;refine Ah C ?_ ?_;exact Aa 2 [] (λq=>λ_=>Az [1,2,3,4,5,6] C<|Fx hS12456 (F,G,q,O,(L,rc),(J,K)) lE (λw f D=>D));refine Ah C ?_ Aj;exact Aa 2 [] (λq=>λ_=>Az [1,2,3,4,5,6] C<|Fx hS12457 (F,G,b7,q,(L,rc),(J,K)) lE (λw f D=>D))
 refine Ml J9 (Mm b1 b2 b3 b4 b5 b6 [1,4,6,7]) (Eb b1 b2 b3 b4 b5 b6 [1,4,6,7]) (λ_=>[]) (f16 [1,4,6,7]) ?_ (λY=>?_)
 ·
  rintro⟨F,G,b7,O,⟨L,rc⟩,⟨J,K⟩⟩;refine Ah C ?_ Aj;refine Dg 3 C C<|DN (λw f=>Ai w f (T1.var 1).one (some ⟨F,0,none⟩) 1) (λw f D=>Dy (l:=[(.var 1,none,0)]) ⟨Ai.nil _ _ _ _,tQ⟩ D.b0) Ai.mono<|BA C C (eC B4 C C) (λw f D=>Dc w f D.vl MD (T1.var 1).one (some ⟨F,0,none⟩) 1 dC D.f0) (λ_=>⟨Ai.mono,tQ⟩) ?_;rintro⟨Z,qc⟩ -;exact Aa 1 [] (λ_=>Bl [3,4,5,6,7,8] Fy C (λ_ h=>.tail _ h)<|Fx U (F,G,b7,O,(Z,qc),(J,K)) lE (λw f D=>D.less sR sR nE (mR [0,2])))
 refine Ml Nw (Mm b1 b2 b3 b4 b5 b6 [1,4,6]) (Eb b1 b2 b3 b4 b5 b6 [1,4,6]) (λ_=>[]) (f16 [1,4,6]) ?_ (λhS146=>?_)
 ·
  rintro⟨F,G,b7,O,⟨L,rc⟩,⟨J,K⟩⟩;refine Ah C ?_ ?_;refine Dg 2 C C<|DN (λw f=>Ai w f (T1.var 1).one (some ⟨F,0,none⟩) 1) (λw f D=>Dy (l:=[(.var 1,none,0)]) ⟨Ai.nil _ _ _ _,tQ⟩ D.b0) Ai.mono<|BA C C (eC B4 C C) (λw f D=>Dc w f D.vl MD (T1.var 1).one (some ⟨F,0,none⟩) 1 dC D.f0) (λ_=>⟨Ai.mono,tQ⟩) ?_;rintro⟨Z,qc⟩ -;exact Aa 1 [] (λ_=>Bl [2,3,4,5,6,7] Fy C (λ_ h=>.tail _ h)<|Fx hS1246 (F,G,b7,O,(Z,qc),(J,K)) lE (λw f D=>D.less sR sR nE (mR [0,2])));refine Ah C ?_ Aj;exact Aa 2 [] (λq=>λ_=>Az [4,5,6,7,8,9] C<|Fx Y (F,G,b7,q,(L,rc),(J,K)) lE (λw f D=>D))
 refine Ml Ny (Mm b1 b2 b3 b4 b5 b6 [1,4,7]) (Eb b1 b2 b3 b4 b5 b6 [1,4,7]) (λ_=>[]) (f16 [1,4,7]) ?_ (λhS147=>?_)
 ·
  rintro⟨F,G,b7,O,⟨L,rc⟩,⟨J,K⟩⟩;refine Ah C ?_ ?_;refine Dg 2 C C<|DN (λw f=>Ai w f (T1.var 1).one (some ⟨F,0,none⟩) 1) (λw f D=>Dy (l:=[(.var 1,none,0)]) ⟨Ai.nil _ _ _ _,tQ⟩ D.b0) Ai.mono<|BA C C (eC B4 C C) (λw f D=>Dc w f D.vl MD (T1.var 1).one (some ⟨F,0,none⟩) 1 dC D.f0) (λ_=>⟨Ai.mono,tQ⟩) ?_;rintro⟨Z,qc⟩ -;exact Aa 1 [] (λ_=>Bl [2,3,4,5,6,7] Fy C (λ_ h=>.tail _ h)<|Fx hS1247 (F,G,b7,O,(Z,qc),(J,K)) lE (λw f D=>D.less sR sR nE (mR [0,2])));refine Ah C ?_ Aj;exact Aa 2 [] (λq=>λ_=>Az [4,5,6,7,8,9] C<|Fx Y (F,G,q,O,(L,rc),(J,K)) lE (λw f D=>D.perm (List.perm_middle (l₁:=[_]))))
 refine Ml Rr (Mm b1 b2 b3 b4 b5 b6 [1,2,7]) (Eb b1 b2 b3 b4 b5 b6 [1,2,7]) (λ_=>[]) (f16 [1,2,7]) ?_ (λhS127=>?_)
 ·
  rintro⟨F,G,b7,O,⟨L,rc⟩,⟨J,K⟩⟩;refine Ah C ?_ ?_;exact Aa 2 [] (λq=>λ_=>Az [2,3,4,5,6,7] C<|Fx hS1247 (F,q,b7,O,(L,rc),(J,K)) lE (λw f D=>D.perm (List.perm_middle (l₁:=[_]))));refine Ah C ?_ Aj;exact Aa 2 [] (λq=>λ_=>Az [2,3,4,5,6,7] C<|Fx hS1267 (F,G,q,O,(L,rc),(J,K)) lE (λw f D=>D.perm (List.perm_middle (l₁:=[_]))))
 refine Ml N0 (Mm b1 b2 b3 b4 b5 b6 [1,6,7]) (Eb b1 b2 b3 b4 b5 b6 [1,6,7]) (λ_=>[]) (f16 [1,6,7]) ?_ (λhS167=>?_)
 ·
  rintro⟨F,G,b7,O,⟨L,rc⟩,⟨J,K⟩⟩;refine Ah C ?_ ?_;refine Dg 2 C C<|DN (λw f=>Ai w f (T1.var 1).one (some ⟨F,0,none⟩) 1) (λw f D=>Dy (l:=[(.var 1,none,0)]) ⟨Ai.nil _ _ _ _,tQ⟩ D.b0) Ai.mono<|BA C C (eC B4 C C) (λw f D=>Dc w f D.vl MD (T1.var 1).one (some ⟨F,0,none⟩) 1 dC D.f0) (λ_=>⟨Ai.mono,tQ⟩) ?_;rintro⟨Z,qc⟩ -;exact Aa 1 [] (λ_=>Bl [2,3,4,5,6,7] Fy C (λ_ h=>.tail _ h)<|Fx hS1267 (F,G,b7,O,(Z,qc),(J,K)) lE (λw f D=>D.less sR sR nE (mR [0,2])));refine Ah C ?_ Aj;exact Aa 2 [] (λq=>λ_=>Az [4,5,6,7,8,9] C<|Fx Y (F,q,b7,O,(L,rc),(J,K)) lE (λw f D=>D.perm (List.perm_middle (l₁:=[_,_]))))
 refine Ml QN (Mm b1 b2 b3 b4 b5 b6 [1,2,6]) (Eb b1 b2 b3 b4 b5 b6 [1,2,6]) (λ_=>[]) (f16 [1,2,6]) ?_ (λhS126=>?_)
 ·
  rintro⟨F,G,b7,O,⟨L,rc⟩,⟨J,K⟩⟩;refine Ah C ?_ ?_;exact Aa 2 [] (λq=>λ_=>Az [2,3,4,5,6,7] C<|Fx hS1246 (F,q,b7,O,(L,rc),(J,K)) lE (λw f D=>D.perm (List.perm_middle (l₁:=[_]))));refine Ah C ?_ Aj;exact Aa 2 [] (λq=>λ_=>Az [2,3,4,5,6,7] C<|Fx hS1267 (F,G,b7,q,(L,rc),(J,K)) lE (λw f D=>D))
 refine Ml Nr (Mm b1 b2 b3 b4 b5 b6 [4,6,7]) (Eb b1 b2 b3 b4 b5 b6 [4,6,7]) (λ_=>[]) (f16 [4,6,7]) ?_ (λhS467=>?_)
 ·
  rintro⟨F,G,b7,O,⟨L,rc⟩,⟨J,K⟩⟩;refine Ah C ?_ Aj;exact Aa 2 [] (λq=>λ_=>Az [4,5,6,7,8,9] C<|Fx Y (q,G,b7,O,(L,rc),(J,K)) lE (λw f D=>D.perm (List.perm_middle (l₁:=[_,_,_]))))
 refine Ml RG (Mm b1 b2 b3 b4 b5 b6 [1,2,4]) (Eb b1 b2 b3 b4 b5 b6 [1,2,4]) (λ_=>[]) (f16 [1,2,4]) ?_ (λhS124=>?_)
 ·
  rintro⟨F,G,b7,O,⟨L,rc⟩,⟨J,K⟩⟩;refine Ah C ?_ ?_;refine Dg 0 C C<|DN (λw f=>Ai w f (T1.var 1).one (some ⟨G,0,none⟩) 1) (λw f D=>Dy (l:=[(.var 1,none,0)]) ⟨Ai.nil _ _ _ _,tQ⟩ D.b0) Ai.mono<|BA C C (eC B4 C C) (λw f D=>Dc w f D.vl Dv (T1.var 1).one (some ⟨G,0,none⟩) 1 dC D.f0) (λ_=>⟨Ai.mono,tQ⟩) ?_;rintro⟨Z,qc⟩ -;exact Aa 1 [] (λ_=>Bl [0,1,2,3,4,5] Fy C (λ_ h=>.tail _ h)<|Fx hS1245 (F,G,b7,O,(L,rc),(Z,qc)) lE (λw f D=>D.less sR sR nE (mR [0,2,3])));refine Ah C ?_ ?_;exact Aa 2 [] (λq=>λ_=>Az [2,3,4,5,6,7] C<|Fx hS1246 (F,G,q,O,(L,rc),(J,K)) lE (λw f D=>D));refine Ah C ?_ Aj;exact Aa 2 [] (λq=>λ_=>Az [2,3,4,5,6,7] C<|Fx hS1247 (F,G,b7,q,(L,rc),(J,K)) lE (λw f D=>D))
 refine Ml Vj (Mm b1 b2 b3 b4 b5 b6 [1,4]) (Eb b1 b2 b3 b4 b5 b6 [1,4]) (λ_=>[]) (f16 [1,4]) ?_ (λhS14=>?_)
 ·
  rintro⟨F,G,b7,O,⟨L,rc⟩,⟨J,K⟩⟩;refine Ah C ?_ ?_;refine Dg 1 C C<|DN (λw f=>Ai w f (T1.var 1).one (some ⟨F,0,none⟩) 1) (λw f D=>Dy (l:=[(.var 1,none,0)]) ⟨Ai.nil _ _ _ _,tQ⟩ D.b0) Ai.mono<|BA C C (eC B4 C C) (λw f D=>Dc w f D.vl MD (T1.var 1).one (some ⟨F,0,none⟩) 1 dC D.f0) (λ_=>⟨Ai.mono,tQ⟩) ?_;rintro⟨Z,qc⟩ -;exact Aa 1 [] (λ_=>Bl [1,2,3,4,5,6] Fy C (λ_ h=>.tail _ h)<|Fx hS124 (F,G,b7,O,(Z,qc),(J,K)) lE (λw f D=>D.less sR sR nE (mR [0,2])));refine Ah C ?_ ?_;exact Aa 2 [] (λq=>λ_=>Az [3,4,5,6,7,8] C<|Fx hS146 (F,G,q,O,(L,rc),(J,K)) lE (λw f D=>D));refine Ah C ?_ Aj;exact Aa 2 [] (λq=>λ_=>Az [3,4,5,6,7,8] C<|Fx hS147 (F,G,b7,q,(L,rc),(J,K)) lE (λw f D=>D))
 refine Ml Vr (Mm b1 b2 b3 b4 b5 b6 [4,6]) (Eb b1 b2 b3 b4 b5 b6 [4,6]) (λ_=>[]) (f16 [4,6]) ?_ (λhS46=>?_)
 ·
  rintro⟨F,G,b7,O,⟨L,rc⟩,⟨J,K⟩⟩;refine Ah C ?_ ?_;exact Aa 2 [] (λq=>λ_=>Az [3,4,5,6,7,8] C<|Fx hS146 (q,G,b7,O,(L,rc),(J,K)) lE (λw f D=>D.perm (List.perm_middle (l₁:=[_,_]))));refine Ah C ?_ Aj;exact Aa 2 [] (λq=>λ_=>Az [3,4,5,6,7,8] C<|Fx hS467 (F,G,b7,q,(L,rc),(J,K)) lE (λw f D=>D))
 refine Ml W1 (Mm b1 b2 b3 b4 b5 b6 [1,7]) (Eb b1 b2 b3 b4 b5 b6 [1,7]) (λ_=>[]) (f16 [1,7]) ?_ (λhS17=>?_)
 ·
  rintro⟨F,G,b7,O,⟨L,rc⟩,⟨J,K⟩⟩;refine Ah C ?_ ?_;refine Dg 1 C C<|DN (λw f=>Ai w f (T1.var 1).one (some ⟨F,0,none⟩) 1) (λw f D=>Dy (l:=[(.var 1,none,0)]) ⟨Ai.nil _ _ _ _,tQ⟩ D.b0) Ai.mono<|BA C C (eC B4 C C) (λw f D=>Dc w f D.vl MD (T1.var 1).one (some ⟨F,0,none⟩) 1 dC D.f0) (λ_=>⟨Ai.mono,tQ⟩) ?_;rintro⟨Z,qc⟩ -;exact Aa 1 [] (λ_=>Bl [1,2,3,4,5,6] Fy C (λ_ h=>.tail _ h)<|Fx hS127 (F,G,b7,O,(Z,qc),(J,K)) lE (λw f D=>D.less sR sR nE (mR [0,2])));refine Ah C ?_ ?_;exact Aa 2 [] (λq=>λ_=>Az [3,4,5,6,7,8] C<|Fx hS147 (F,q,b7,O,(L,rc),(J,K)) lE (λw f D=>D.perm (List.perm_middle (l₁:=[_]))));refine Ah C ?_ Aj;exact Aa 2 [] (λq=>λ_=>Az [3,4,5,6,7,8] C<|Fx hS167 (F,G,q,O,(L,rc),(J,K)) lE (λw f D=>D.perm (List.perm_middle (l₁:=[_]))))
 refine Ml W6 (Mm b1 b2 b3 b4 b5 b6 [1,6]) (Eb b1 b2 b3 b4 b5 b6 [1,6]) (λ_=>[]) (f16 [1,6]) ?_ (λhS16=>?_)
 ·
  rintro⟨F,G,b7,O,⟨L,rc⟩,⟨J,K⟩⟩;refine Ah C ?_ ?_;refine Dg 1 C C<|DN (λw f=>Ai w f (T1.var 1).one (some ⟨F,0,none⟩) 1) (λw f D=>Dy (l:=[(.var 1,none,0)]) ⟨Ai.nil _ _ _ _,tQ⟩ D.b0) Ai.mono<|BA C C (eC B4 C C) (λw f D=>Dc w f D.vl MD (T1.var 1).one (some ⟨F,0,none⟩) 1 dC D.f0) (λ_=>⟨Ai.mono,tQ⟩) ?_;rintro⟨Z,qc⟩ -;exact Aa 1 [] (λ_=>Bl [1,2,3,4,5,6] Fy C (λ_ h=>.tail _ h)<|Fx hS126 (F,G,b7,O,(Z,qc),(J,K)) lE (λw f D=>D.less sR sR nE (mR [0,2])));refine Ah C ?_ ?_;exact Aa 2 [] (λq=>λ_=>Az [3,4,5,6,7,8] C<|Fx hS146 (F,q,b7,O,(L,rc),(J,K)) lE (λw f D=>D.perm (List.perm_middle (l₁:=[_]))));refine Ah C ?_ Aj;exact Aa 2 [] (λq=>λ_=>Az [3,4,5,6,7,8] C<|Fx hS167 (F,G,b7,q,(L,rc),(J,K)) lE (λw f D=>D))
 refine Ml Ws (Mm b1 b2 b3 b4 b5 b6 [4,7]) (Eb b1 b2 b3 b4 b5 b6 [4,7]) (λ_=>[]) (f16 [4,7]) ?_ (λhS47=>?_)
 ·
  rintro⟨F,G,b7,O,⟨L,rc⟩,⟨J,K⟩⟩;refine Ah C ?_ ?_;exact Aa 2 [] (λq=>λ_=>Az [3,4,5,6,7,8] C<|Fx hS147 (q,G,b7,O,(L,rc),(J,K)) lE (λw f D=>D.perm (List.perm_middle (l₁:=[_,_]))));refine Ah C ?_ Aj;exact Aa 2 [] (λq=>λ_=>Az [3,4,5,6,7,8] C<|Fx hS467 (F,G,q,O,(L,rc),(J,K)) lE (λw f D=>D.perm (List.perm_middle (l₁:=[_]))))
 refine Ml VS (Mm b1 b2 b3 b4 b5 b6 [6,7]) (Eb b1 b2 b3 b4 b5 b6 [6,7]) (λ_=>[]) (f16 [6,7]) ?_ (λhS67=>?_)
 ·
  rintro⟨F,G,b7,O,⟨L,rc⟩,⟨J,K⟩⟩;refine Ah C ?_ ?_;exact Aa 2 [] (λq=>λ_=>Az [3,4,5,6,7,8] C<|Fx hS167 (q,G,b7,O,(L,rc),(J,K)) lE (λw f D=>D.perm (List.perm_middle (l₁:=[_,_]))));refine Ah C ?_ Aj;exact Aa 2 [] (λq=>λ_=>Az [3,4,5,6,7,8] C<|Fx hS467 (F,q,b7,O,(L,rc),(J,K)) lE (λw f D=>D.perm (List.perm_middle (l₁:=[_,_]))))
 refine Ml aS (Mm b1 b2 b3 b4 b5 b6 [1,2]) (Eb b1 b2 b3 b4 b5 b6 [1,2]) (λ_=>[]) (f16 [1,2]) ?_ (λhS12=>?_)
 ·
  rintro⟨F,G,b7,O,⟨L,rc⟩,⟨J,K⟩⟩;refine Ah C ?_ ?_;exact Aa 2 [] (λq=>λ_=>Az [1,2,3,4,5,6] C<|Fx hS124 (F,q,b7,O,(L,rc),(J,K)) lE (λw f D=>D));refine Ah C ?_ ?_;exact Aa 2 [] (λq=>λ_=>Az [1,2,3,4,5,6] C<|Fx hS126 (F,G,q,O,(L,rc),(J,K)) lE (λw f D=>D));refine Ah C ?_ Aj;exact Aa 2 [] (λq=>λ_=>Az [1,2,3,4,5,6] C<|Fx hS127 (F,G,b7,q,(L,rc),(J,K)) lE (λw f D=>D))
 refine Ml pN (Mm b1 b2 b3 b4 b5 b6 [1]) (Eb b1 b2 b3 b4 b5 b6 [1]) (λ_=>[]) (f16 [1]) ?_ (λhS1=>?_)
 ·
  rintro⟨F,G,b7,O,⟨L,rc⟩,⟨J,K⟩⟩;refine Ah C ?_ ?_;refine Dg 0 C C<|DN (λw f=>Ai w f (T1.var 1).one (some ⟨F,0,none⟩) 1) (λw f D=>Dy (l:=[(.var 1,none,0)]) ⟨Ai.nil _ _ _ _,tQ⟩ D.b0) Ai.mono<|BA C C (eC B4 C C) (λw f D=>Dc w f D.vl MD (T1.var 1).one (some ⟨F,0,none⟩) 1 dC D.f0) (λ_=>⟨Ai.mono,tQ⟩) ?_;rintro⟨Z,qc⟩ -;exact Aa 1 [] (λ_=>Bl [0,1,2,3,4,5] Fy C (λ_ h=>.tail _ h)<|Fx hS12 (F,G,b7,O,(Z,qc),(J,K)) lE (λw f D=>D.less sR sR nE (mR [0,2])));refine Ah C ?_ ?_;exact Aa 2 [] (λq=>λ_=>Az [2,3,4,5,6,7] C<|Fx hS14 (F,q,b7,O,(L,rc),(J,K)) lE (λw f D=>D));refine Ah C ?_ ?_;exact Aa 2 [] (λq=>λ_=>Az [2,3,4,5,6,7] C<|Fx hS16 (F,G,q,O,(L,rc),(J,K)) lE (λw f D=>D));refine Ah C ?_ Aj;exact Aa 2 [] (λq=>λ_=>Az [2,3,4,5,6,7] C<|Fx hS17 (F,G,b7,q,(L,rc),(J,K)) lE (λw f D=>D))
 refine Ml pZ (Mm b1 b2 b3 b4 b5 b6 [4]) (Eb b1 b2 b3 b4 b5 b6 [4]) (λ_=>[]) (f16 [4]) ?_ (λhS4=>?_)
 ·
  rintro⟨F,G,b7,O,⟨L,rc⟩,⟨J,K⟩⟩;refine Ah C ?_ ?_;exact Aa 2 [] (λq=>λ_=>Az [2,3,4,5,6,7] C<|Fx hS14 (q,G,b7,O,(L,rc),(J,K)) lE (λw f D=>D.perm (List.perm_middle (l₁:=[_]))));refine Ah C ?_ ?_;exact Aa 2 [] (λq=>λ_=>Az [2,3,4,5,6,7] C<|Fx hS46 (F,G,q,O,(L,rc),(J,K)) lE (λw f D=>D));refine Ah C ?_ Aj;exact Aa 2 [] (λq=>λ_=>Az [2,3,4,5,6,7] C<|Fx hS47 (F,G,b7,q,(L,rc),(J,K)) lE (λw f D=>D))
 refine Ml oO (Mm b1 b2 b3 b4 b5 b6 [7]) (Eb b1 b2 b3 b4 b5 b6 [7]) (λ_=>[]) (f16 [7]) ?_ (λhS7=>?_)
 ·
  rintro⟨F,G,b7,O,⟨L,rc⟩,⟨J,K⟩⟩;refine Ah C ?_ ?_;exact Aa 2 [] (λq=>λ_=>Az [2,3,4,5,6,7] C<|Fx hS17 (q,G,b7,O,(L,rc),(J,K)) lE (λw f D=>D.perm (List.perm_middle (l₁:=[_]))));refine Ah C ?_ ?_;exact Aa 2 [] (λq=>λ_=>Az [2,3,4,5,6,7] C<|Fx hS47 (F,q,b7,O,(L,rc),(J,K)) lE (λw f D=>D.perm (List.perm_middle (l₁:=[_]))));refine Ah C ?_ Aj;exact Aa 2 [] (λq=>λ_=>Az [2,3,4,5,6,7] C<|Fx hS67 (F,G,q,O,(L,rc),(J,K)) lE (λw f D=>D.perm (List.perm_middle (l₁:=[_]))))
 refine Ml oH (Mm b1 b2 b3 b4 b5 b6 [6]) (Eb b1 b2 b3 b4 b5 b6 [6]) (λ_=>[]) (f16 [6]) ?_ (λhS6=>?_)
 ·
  rintro⟨F,G,b7,O,⟨L,rc⟩,⟨J,K⟩⟩;refine Ah C ?_ ?_;exact Aa 2 [] (λq=>λ_=>Az [2,3,4,5,6,7] C<|Fx hS16 (q,G,b7,O,(L,rc),(J,K)) lE (λw f D=>D.perm (List.perm_middle (l₁:=[_]))));refine Ah C ?_ ?_;exact Aa 2 [] (λq=>λ_=>Az [2,3,4,5,6,7] C<|Fx hS46 (F,q,b7,O,(L,rc),(J,K)) lE (λw f D=>D.perm (List.perm_middle (l₁:=[_]))));refine Ah C ?_ Aj;exact Aa 2 [] (λq=>λ_=>Az [2,3,4,5,6,7] C<|Fx hS67 (F,G,b7,q,(L,rc),(J,K)) lE (λw f D=>D))
 refine Ml t16_ (Mm b1 b2 b3 b4 b5 b6 []) (Eb b1 b2 b3 b4 b5 b6 []) (λ_=>[]) (f16 []) ?_ (λhS=>?_)
 ·
  rintro⟨F,G,b7,O,⟨L,rc⟩,⟨J,K⟩⟩;refine Ah C ?_ ?_;exact Aa 2 [] (λq=>λ_=>Az [1,2,3,4,5,6] C<|Fx hS1 (q,G,b7,O,(L,rc),(J,K)) lE (λw f D=>D));refine Ah C ?_ ?_;exact Aa 2 [] (λq=>λ_=>Az [1,2,3,4,5,6] C<|Fx hS4 (F,q,b7,O,(L,rc),(J,K)) lE (λw f D=>D));refine Ah C ?_ ?_;exact Aa 2 [] (λq=>λ_=>Az [1,2,3,4,5,6] C<|Fx hS6 (F,G,q,O,(L,rc),(J,K)) lE (λw f D=>D));refine Ah C ?_ Aj;exact Aa 2 [] (λq=>λ_=>Az [1,2,3,4,5,6] C<|Fx hS7 (F,G,b7,q,(L,rc),(J,K)) lE (λw f D=>D))
 exact Fx hS (0,0,0,0,(none,0),(none,0)) lE (λw f D=>D);rintro⟨b7,O,⟨L,rc⟩,⟨J,K⟩⟩ -;dsimp only;refine Aa 8 [] (λb31=>λ_=>FJ C C (λw f D=>Sh C)<|Aa 4 [] (λ_=>mgv 0 C C<|mmi (O4 b31 none) (Eh 100 103 b31 (.slice none 0 0) none 0 0 []) (λb h=>h.elim .inr λh=>by cases h) (λw f h=>⟨h.2,⟨C,.inl ⟨C,C,C⟩⟩,λh=>by cases h⟩) Eh.stab<|DN (λw f=>Dk w f [] []) (λw f D=>C) Dk.mono<|Aa 6 [7,7,7] (y<|y<|y<|λb32=>λ_=>H3 0 5 [qI,qI,qI] C C C C C C (λw f _ _ D=>⟨D.f3,⟨qN,⟨qN,⟨qN,tQ⟩⟩⟩⟩) ⟨kI,⟨kI,⟨kI,tQ⟩⟩⟩ λa1 c1 xs1=>Aa 8 [7,7] (y<|y<|λb33=>λ_=>H3 0 6 [qI,qI] C C C C C C (λw f _ _ D=>⟨D.f3,⟨qN,⟨qN,tQ⟩⟩⟩) ⟨kI,⟨kI,tQ⟩⟩ λa2 c2 xs2=>?_))));refine Aa 9 [7,7,4] (y<|y<|y<|λb34=>λ_=>H3 0 9 [qI,qI,qB] C C C C C C (λw f _ _ D=>⟨D.f3,⟨qN,⟨qN,⟨qN,tQ⟩⟩⟩⟩) ⟨kI,⟨kI,⟨kB,tQ⟩⟩⟩ λa3 c3 xs3=>Aa 9 [6,6,6] (y<|y<|y<|λb35=>λ_=>H3 0 13 [qF,qF,qF] C C C C C C (λw f _ _ D=>⟨D.f3,⟨qN,⟨qN,⟨qN,tQ⟩⟩⟩⟩) ⟨kF,⟨kF,⟨kF,tQ⟩⟩⟩ λa4 c4 xs4=>Aa 8 [6,6] (y<|y<|λb36=>λ_=>H3 0 15 [qF,qF] C C C C C C (λw f _ _ D=>⟨D.f3,⟨qN,⟨qN,tQ⟩⟩⟩) ⟨kF,⟨kF,tQ⟩⟩ λa5 c5 xs5=>Aa 9 [6,6,4] (y<|y<|y<|λb37=>λ_=>H3 0 18 [qF,qF,qB] C C C C C C (λw f _ _ D=>⟨D.f3,⟨qN,⟨qN,⟨qN,tQ⟩⟩⟩⟩) ⟨kF,⟨kF,⟨kB,tQ⟩⟩⟩ λa6 c6 xs6=>Aa 8 [7,6] (y<|y<|λb38=>λ_=>H3 0 19 [qI,qF] C C C C C C (λw f _ _ D=>⟨D.f3,⟨qN,⟨qN,tQ⟩⟩⟩) ⟨kI,⟨kF,tQ⟩⟩ λa7 c7 xs7=>?_)))));refine Aa 8 [6,7] (y<|y<|λb39=>λ_=>H3 0 20 [qF,qI] C C C C C C (λw f _ _ D=>⟨D.f3,⟨qN,⟨qN,tQ⟩⟩⟩) ⟨kF,⟨kI,tQ⟩⟩ λa8 c8 xs8=>Aa 8 [6,5] (y<|y<|λb40=>λ_=>H3 0 21 [qF,qS] C C C C C C (λw f _ _ D=>⟨D.f3,⟨qN,⟨qN,tQ⟩⟩⟩) ⟨kF,⟨kS,tQ⟩⟩ λa9 c9 xs9=>Aa 7 [6] (y<|λb41=>λ_=>H3 0 23 [qF] C C C C C C (λw f _ _ D=>⟨D.f3,⟨qN,tQ⟩⟩) ⟨kF,tQ⟩ λa10 c10 xs10=>Aa 9 [5,5,5] (y<|y<|y<|λb42=>λ_=>H3 0 24 [qS,qS,qS] C C C C C C (λw f _ _ D=>⟨D.f3,⟨qN,⟨qN,⟨qN,tQ⟩⟩⟩⟩) ⟨kS,⟨kS,⟨kS,tQ⟩⟩⟩ λa11 c11 xs11=>Aa 8 [5,7] (y<|y<|λb43=>λ_=>H3 0 27 [qS,qI] C C C C C C (λw f _ _ D=>⟨D.f3,⟨qN,⟨qN,tQ⟩⟩⟩) ⟨kS,⟨kI,tQ⟩⟩ λa12 c12 xs12=>?_)))))
 refine Aa 10 [5,7,7,5] (y<|y<|y<|y<|λb44=>λ_=>H3 0 28 [qS,qI,qI,qS] C C C C C C (λw f _ _ D=>⟨D.f3,⟨qN,⟨qN,⟨qN,⟨qN,tQ⟩⟩⟩⟩⟩) ⟨kS,⟨kI,⟨kI,⟨kS,tQ⟩⟩⟩⟩ λa13 c13 xs13=>Aa 9 [5,5,4] (y<|y<|y<|λb45=>λ_=>H3 0 30 [qS,qS,qB] C C C C C C (λw f _ _ D=>⟨D.f3,⟨qN,⟨qN,⟨qN,tQ⟩⟩⟩⟩) ⟨kS,⟨kS,⟨kB,tQ⟩⟩⟩ λa14 c14 xs14=>Aa 8 [7,5] (y<|y<|λb46=>λ_=>H3 0 32 [qI,qS] C C C C C C (λw f _ _ D=>⟨D.f3,⟨qN,⟨qN,tQ⟩⟩⟩) ⟨kI,⟨kS,tQ⟩⟩ λa15 c15 xs15=>Aa 8 [5,3] (y<|y<|λb47=>λ_=>H3 0 33 [qS,qU] C C C C C C (λw f _ _ D=>⟨D.f3,⟨qN,⟨qN,tQ⟩⟩⟩) ⟨kS,⟨kU,tQ⟩⟩ λa16 c16 xs16=>Aa 8 [3,5] (y<|y<|λb48=>λ_=>H3 0 34 [qU,qS] C C C C C C (λw f _ _ D=>⟨D.f3,⟨qN,⟨qN,tQ⟩⟩⟩) ⟨kU,⟨kS,tQ⟩⟩ λa17 c17 xs17=>?_)))));refine Aa 8 [2,1] (y<|y<|λb49=>λ_=>H3 0 35 [qV,(qR L rc)] C C C C C C (λw f _ _ D=>⟨D.f3,⟨qN,⟨D.f2,tQ⟩⟩⟩) ⟨kV,⟨(D4 dC dC tQ),tQ⟩⟩ λa18 c18 xs18=>Aa 8 [1,2] (y<|y<|λb50=>λ_=>H3 0 36 [(qR L rc),qV] C C C C C C (λw f _ _ D=>⟨D.f3,⟨D.f2,⟨qN,tQ⟩⟩⟩) ⟨(D4 dC dC tQ),⟨kV,tQ⟩⟩ λa19 c19 xs19=>Aa 9 [1,2,3] (y<|y<|y<|λb51=>λ_=>H3 0 37 [(qR L rc),qV,qU] C C C C C C (λw f _ _ D=>⟨D.f3,⟨D.f2,⟨qN,⟨qN,tQ⟩⟩⟩⟩) ⟨(D4 dC dC tQ),⟨kV,⟨kU,tQ⟩⟩⟩ λa20 c20 xs20=>Aa 8 [2,0] (y<|y<|λb52=>λ_=>H3 0 38 [qV,(qP J K)] C C C C C C (λw f _ _ D=>⟨D.f3,⟨qN,⟨D.f1,tQ⟩⟩⟩) ⟨kV,⟨(D4 dC dC tQ),tQ⟩⟩ λa21 c21 xs21=>Aa 8 [0,2] (y<|y<|λb53=>λ_=>H3 0 39 [(qP J K),qV] C C C C C C (λw f _ _ D=>⟨D.f3,⟨D.f1,⟨qN,tQ⟩⟩⟩) ⟨(D4 dC dC tQ),⟨kV,tQ⟩⟩ λa22 c22 xs22=>?_)))));exact Aa 9 [0,2,3] (y<|y<|y<|λb54=>λ_=>H3 0 40 [(qP J K),qV,qU] C C C C C C (λw f _ _ D=>⟨D.f3,⟨D.f1,⟨qN,⟨qN,tQ⟩⟩⟩⟩) ⟨(D4 dC dC tQ),⟨kV,⟨kU,tQ⟩⟩⟩ λa23 c23 xs23=>Aa 4 [] (λ_=>FJ C C (λw f D=>Am C KO D.res.blk C)<|Aa 4 [] (λ_=>Bc (DE C C) (λw f D=>by obtain⟨f2,h1,h2⟩:=D.res.fin (l:=C5) D.exm (λb hb=>(D.mi b (.inr hb)).2.2.elim id λh=>h.elim) D.f0 C dC;exact⟨(a23,c23),f2,C,tQ,h1,⟨h2,tQ⟩⟩))))
def RC(p:SB):Bd:=⟨p.1,Cf p.2.2 [1] (T1.var (0-1)).one,[0-1]⟩
def Hj(i:Nat):AB:=((C5.take i).map RC).reverse
variable {nu:Int}{i:Nat}{dt:lU}
theorem Y8{p:SB}(h:C5[i]?=some p):Hj (i+1)=RC p::Hj i:=by
 unfold Hj;rw[D6 h,List.map_append,List.reverse_append];rfl
theorem UG:Hj C5.length=B5:=kR
theorem Oz:∀p,p∈C5→p.2.2.bnd:=by
 intro p F;simp only[C5,List.mem_cons,List.not_mem_nil,or_false] at F;have G:∀{l:List (T1×oA×Nat)},iN l→(Gf (UI l)).bnd:=λh=>XU (QJ h);have K:=B7 1;have D:∀{t:lU},t.length≤1000000→(c0 t).bnd:=λh=>Dj h;have L:(T1.con MD (T1.var 1).one).bnd:=D4 dC dC tQ;have J:(T1.con Dv (T1.var 1).one).bnd:=D4 dC dC tQ;have bi:=D (t:=bI) dC;have O:=D (t:=bF) dC;have Q:=D (t:=bS) dC;have U:=D (t:=bB) dC;have W:=D (t:=bU) dC
 repeat' (rcases F with rfl|F)
 all_goals first|(subst F)|skip
 all_goals (refine G ?_;simp only[iN,and_true];simp[*])
theorem TD{nm:lU}{D:Nat}(h:Iz[i]?=some (nm,dt,nu,D)):D≤1:=by
 have:∀p∈Iz,p.2.2.2≤1:=dC;exact this _ (List.mem_of_getElem? h)
theorem T6{nm:lU}{D:Nat}(h:Iz[i]?=some (nm,dt,nu,D)):dt.length≤1000000:=by
 have:∀p∈Iz,p.2.1.length≤1000000:=dC;exact this _ (List.mem_of_getElem? h)
theorem WFc0:DQ (⟨[],0,ZG 0,[],[],0⟩:CS):=⟨tQ,λ_ _ h=>(by cases h),tQ,tQ,tQ,Int.le_refl _⟩
set_option maxHeartbeats 2000000 in
theorem UL(w:wO)(f:Fq)(hv:Vl w f)(hG:FD w f) :
  BF prog 29 #[] w (P4 (α:=Ad×oA) (λx=>.tuple #[pB x.1.cb,.pointer x.2]) (λx=>x.1.ok) (λ_=>False) (λx=>BD x.1) (λx=>Aw 76 140 x.1 ES) (λx=>[λw f=>AN w f B5 x.2]) w f):=by
 refine Df (X:=X0 w f) (H:=[]) (R:=[]) (B:=[]) (Fs:=[λw f=>FD w f]) (f:=f) func29 C C C (CC hv ⟨hG,tQ⟩ ⟨FD.mono,tQ⟩)<|Aa 8 [] (λ_=>mG (XX:=λ_ _=>False) C C (eC uN C C) (λw f D=>(ZY w f D.vl).retP) (λ_=>BP.stab (.inl C) (.inr C)) (λ_=>trivial) (λ_ _ _ _ _ h=>h.elim) ?_);rintro⟨sb,mb⟩ hsm;dsimp only at hsm ⊢;refine dL (K:=CJ) C C λkm hkm=>dL (K:=CJ) C C λdm hdm=>dL (K:=CJ) C C λrm hrm=>Aa 7 [] (λb1=>λ_=>KH (λw f D=>(D.own b1 (.head _)).2.2) λZ=>mgv 0 C C ?_);obtain⟨A,rfl,rfl,rfl,rfl,rfl,rfl⟩:∃A:Ad,A.cb=b1∧A.sb=sb∧A.mb=mb∧A.km=km∧A.dm=dm∧A.rm=rm:=⟨⟨b1,sb,mb,km,dm,rm⟩,C,C,C,C,C,C⟩;have hA:A.ok:=⟨λe=>Z (.inl (.inl (.inl (.inl e)))),⟨λe=>Z (.inl (.inl (.inl (.inr e)))),λe=>Z (.inl (.inl (.inr e))),λe=>Z (.inl (.inr e)),λe=>Z (.inr e)⟩,⟨hsm,λe=>hkm (.inl e.symm),λe=>hdm (.inl (.inl e.symm)),λe=>hrm (.inl (.inl (.inl e.symm)))⟩,⟨λe=>hkm (.inr e.symm),λe=>hdm (.inl (.inr e.symm)),λe=>hrm (.inl (.inl (.inr e.symm))),λe=>hdm (.inr e.symm),λe=>hrm (.inl (.inr e.symm)),λe=>hrm (.inr e.symm)⟩⟩;refine mmi (BD A) (Aw 76 140 A (⟨[],0,ZG 0,[],[],0⟩:CS)) (λb h=>by rcases h with h|h|h|h|h|h;exact .inr h;exact .inl (.inl (.inl (.inl (.inl h))));exact .inl (.inl (.inl (.inl (.inr h))));exact .inl (.inl (.inl (.inr h)));exact .inl (.inl (.inr h));exact .inl (.inr h)) (λw f h=>⟨h.2,⟨0,h.1.1.1.1⟩,⟨[],h.1.1.1.2,C⟩,h.1.1.2,h.1.2⟩) Aw.stab<|Aa 1 [] (λ_=>BA C C (eC tN C C) (λw f D=>UO w f D.vl) (λx=>⟨λ_ _ _ _ h hF=>Cs.mono h hF,tQ⟩) ?_);rintro kb -;refine Aa 5 [] (λ_=>?_);refine HE (α:=Nat) (λi=>8-i) (λi=>i≤8∧DQ (⟨[],0,ZG i,[],[],0⟩:CS)) (λi=>(E4 2 (pB A.cb) 15 (.slice (some ⟨kb,0,none⟩) 8 8) 16 (iV ((8:Nat):Int)) 17 (iV (i:Int)))) (λi=>⟨λ_=>False,BD A,Aw 76 140 A (⟨[],0,ZG i,[],[],0⟩:CS),w,f⟩) (λi=>[]) (λi=>[]) (λi=>[]) (λi=>[λw f=>Cs w f kb 0 Rh,λw f=>FD w f]) (0) ⟨Nat.zero_le _,WFc0⟩ lE (λw f D=>D.less sR sR nE (mR [0,1])) ?_;rintro i ⟨hi,hwi⟩;refine Aa 6 [] (λ_=>Bb 18 C C (λh1=>?_) (λh1=>?_));refine Aa 6 [] (λ_=>?_);have hil:i<8:=by have:=dT h1;omega
 obtain⟨⟨nm,dt,nu,L⟩,hx⟩:∃v,Iz[i]?=some v:=⟨_,List.getElem?_eq_getElem (l:=Iz) hil⟩;have har:L≤1:=TD hx;refine Nq (α:=Unit) (λx=>True) (λx=>[⟨kb,0+i*4,cC (nm,dt,nu,L)⟩]) (λx=>[]) (λw f D=>⟨(),tQ,(λe he=>by cases he with|head=>exact Cs.flat cC 4 (λ_=>C) Iz 0 i _ D.f0 hx|tail _ h=>cases h),λ_ h=>by cases h⟩) (λx=>A2.mem tQ) ?_;rintro⟨⟩ -;refine Aa 11 [100,0,0,0] (aI oM<|y2<|λb2=>y<|y<|λ_=>BA C C (eC B4 C C) (λw f D=>Bu w f D.vl dt) (λx=>trivial) ?_);rintro⟨⟩ -;refine Aa 14 [0,1] (λb3=>y<|y<|λ_=>So 68 4 ?_);refine HE (α:=Nat×lV×oA×Nat) (λx=>L-x.1) (λx=>x.1≤L) (λx=>(E8 2 (pB A.cb) 4 (pB b2) 5 (pB b3) 15 (.slice (some ⟨kb,0,none⟩) 8 8) 16 (iV ((8:Nat):Int)) 17 (iV (i:Int)) 26 (iV (L:Int)) 27 (iV (x.1:Int)))) (λx=>⟨λ_=>False,BD A,Aw 76 140 A (⟨[],0,ZG i,[],[],0⟩:CS),w,f⟩) (λx=>[⟨b3,[.slice x.2.2.1 x.1 x.2.2.2,iV 1,iV 0,S dt,.slice none 0 0,.slice none 0 0],99,true⟩,⟨b2,cC (nm,dt,nu,L),96,true⟩]) (λx=>[⟨68,4,x.2.2.1,x.2.2.2,x.1,x.2.1⟩]) (λx=>[]) (λx=>[λw f=>Bn w f (Pl x.1) x.2.1,λw f=>Cs w f kb 0 Rh,λw f=>FD w f]) (0,[],none,0) (Nat.zero_le _) lE (λw f D=>D.more (B':=[]) (F':=[λw f=>Bn w f .nil []]) nE (AM.mem ⟨C,tQ⟩) (A2.mem ⟨Bn.mono,tQ⟩) |>.less (sK (sK sZ)) sR nE (mR [0,1,2])) ?_;rintro⟨j,xs,ra,rc⟩ hj;dsimp only at hj ⊢;have hj0:=hj;refine Aa 6 [] (λ_=>Bb 28 C C (λh2=>?_) (λh2=>?_));refine Aa 5 [] (λ_=>?_);have hjl:j<L:=by have:=dT h2;omega
 refine Dh [1] Aq (.rd 0 (.br 1 (.br 2 (.br 3 (.br 4 (.rd 5 (.br 6 .fin .fin)) .fin) .fin) .fin) (.br 2 (.br 1 (.br 3 (.br 4 (.rd 5 (.br 6 .fin .fin)) .fin) .fin) (.br 3 (.br 1 (.br 4 (.rd 5 (.br 6 .fin .fin)) .fin) .fin) .fin)) .fin))) C kR<|A9 1 [] (λ_=>Ah C ?_ ?_);refine Aa 2 [0] (y<|λ_=>Az [1] C<|Ah C ?_ Aj);refine BA C C (eC B4 C C) (λw f D=>Bu w f D.vl [115,116,114,105,110,103]) (λx=>trivial) ?_;rintro⟨⟩ -;refine Aa 1 [] (λ_=>Az [1] C<|Ah C ?_ Aj);refine Aa 2 [] (λb4=>λ_=>Az [2] C<|Ah C ?_ Aj);refine DI 0 0 C C Dq C C C C C C C C (λ_ _=>C) oM oM λra2 rc2=>Aa 1 [] (λ_=>Az [2] C<|A9 1 [] (λ_=>Ah C ?_ Aj));exact Aa 2 [1] (y<|λ_=>Az [2] C<|Bx<|Aa 6 [] (aI ⟨oM,oM⟩<|λ_=>DW ((j+1,xs++tC (c0 bS) none 0,ra2,rc2)) (show L-(j+1)<L-j by omega) (show j+1≤L by omega) lE (λw f D=>⟨_,(D.more (B':=[]) (F':=[λw f=>Bn w f (Pl (j+1)) (xs++tC (c0 bS) none 0)]) nE (AM.mem ⟨Bn.snoc (Ai.nil _ _ _ _) D.f0,tQ⟩) (A2.mem ⟨Bn.mono,tQ⟩)).less (sD (sK (sK sZ))) sR nE (mR [0,2,3])⟩)));refine Ah C ?_ Aj;refine BA C C (eC B4 C C) (λw f D=>Bu w f D.vl [115,116,114,105,110,103]) (λx=>trivial) ?_;rintro⟨⟩ -;refine Aa 1 [] (λ_=>Az [1] C<|Ah C ?_ ?_);refine Aa 2 [0] (y<|λ_=>Az [1] C<|Ah C ?_ Aj);refine Aa 2 [] (λb5=>λ_=>Az [2] C<|Ah C ?_ Aj);refine DI 0 0 C C Dq C C C C C C C C (λ_ _=>C) oM oM λra2 rc2=>Aa 1 [] (λ_=>Az [2] C<|A9 1 [] (λ_=>Ah C ?_ Aj));exact Aa 2 [1] (y<|λ_=>Az [2] C<|Bx<|Aa 6 [] (aI ⟨oM,oM⟩<|λ_=>DW ((j+1,xs++tC (c0 bS) none 0,ra2,rc2)) (show L-(j+1)<L-j by omega) (show j+1≤L by omega) lE (λw f D=>⟨_,(D.more (B':=[]) (F':=[λw f=>Bn w f (Pl (j+1)) (xs++tC (c0 bS) none 0)]) nE (AM.mem ⟨Bn.snoc (Ai.nil _ _ _ _) D.f0,tQ⟩) (A2.mem ⟨Bn.mono,tQ⟩)).less (sD (sK (sK sZ))) sR nE (mR [0,2,3])⟩)));refine Ah C ?_ Aj;refine Aa 2 [] (λb6=>λ_=>Az [2] C<|Ah C ?_ Aj);refine Aa 2 [1] (y<|λ_=>Az [2] C<|Ah C ?_ Aj);refine DI 0 0 C C Dq C C C C C C C C (λ_ _=>C) oM oM λra2 rc2=>Aa 1 [] (λ_=>Az [2] C<|A9 1 [] (λ_=>Ah C ?_ Aj));exact Aa 2 [1] (y<|λ_=>Az [2] C<|Bx<|Aa 6 [] (aI ⟨oM,oM⟩<|λ_=>DW ((j+1,xs++tC (c0 bS) none 0,ra2,rc2)) (show L-(j+1)<L-j by omega) (show j+1≤L by omega) lE (λw f D=>⟨_,(D.more (B':=[]) (F':=[λw f=>Bn w f (Pl (j+1)) (xs++tC (c0 bS) none 0)]) nE (AM.mem ⟨Bn.snoc (Ai.nil _ _ _ _) D.f0,tQ⟩) (A2.mem ⟨Bn.mono,tQ⟩)).less (sD (sK (sK sZ))) sR nE (mR [0,2,3])⟩)));refine Aa 3 [] (λ_=>GP<|Aa 2 [] (λ_=>?_));obtain rfl:j=L:=by have:=dF h2;omega
 refine Sp (λw f=>Ai w f (Pl j) ra rc) Ai.mono (λw f D=>HQ D D.f0)<|MT (λw=>AS w A.cb [pB A.sb,.map (some A.km),.map (some A.dm),.map (some A.rm),iV 0] 76) (λw f h _=>h.blk) [0,1] Aq (rd [0,1,2,3,4,5,6] (.br 7 .fin .fin)) C kR kR kR (λ_ _ _ _ _ h=>h)<|A9 3 [] (λ_=>HX C C C (λw hK=>Am C PV hK.2.2 C)<|A9 3 [1,0] (y<|y<|λ_=>Ah C ?_ Aj));exact Aa0 (m:=⟨Pl j,c0 dt,[]⟩) (aa:=ra) (ac:=rc) (oa:=none) (oc:=0) (va:=none) (vc:=0) (i1:=0) hA hwi C C C C (by unfold iQ tC;simp only[Lr];rfl) Qh HG (O5 i hil _ hx) C C C<|Aa 1 [] (λ_=>Bl [0,1] (λw f h _=>h.blk) C (λ_ h=>h)<|Bx<|Aa 6 [] (aI ⟨oM,oM⟩<|λ_=>DW (i+1) (show 8-(i+1)<8-i by omega) ⟨show i+1≤8 by omega,(by rw[Od hx];exact hwi.addCons (O5 i hil _ hx) ⟨by rw[Lr];dsimp only;omega,NP _,Dj (T6 hx),Nat.zero_le _⟩)⟩ lE (λw f D=>⟨_,by rw[Od hx];exact D.less (sD (sD sZ)) sR nE (mR [2,3])⟩)));refine Aa 3 [] (λ_=>GP<|Aa 3 [] (λ_=>?_));obtain rfl:i=8:=by have:=dF h1;omega
 refine Aa 4 [] (λ_=>FJ (v:=iV 0) C C (λw f D=>Am C Iv D.res.blk C)<|Aa 3 [] (aI ⟨oM,oM⟩<|λ_=>cSet (v:=0-1) hA C C C Iv<|Aa 10 [] (λ_=>BA C C (eC vC C C) (λw f D=>WI w f D.vl D.f1) (λx=>⟨VP.mono,tQ⟩) ?_)));rintro⟨pa,pc⟩ -;refine Aa 5 [] (λ_=>?_);refine HE (α:=Nat×oA) (λx=>C5.length-x.1) (λx=>x.1≤C5.length) (λx=>(E5 2 (pB A.cb) 6 (.pointer x.2) 51 (.slice pa C5.length pc) 52 (iV (C5.length:Int)) 53 (iV (x.1:Int)))) (λx=>⟨λ_=>False,BD A,Aw 76 140 A (⟨[],0,ZG 8,[],[],0-1⟩:CS),w,f⟩) (λx=>[]) (λx=>[]) (λx=>[]) (λx=>[λw f=>VP w f C5 pa pc,λw f=>AN w f (Hj x.1) x.2]) (0,none) (Nat.zero_le _) lE (λw f D=>D.more (B':=[]) (F':=[λw f=>AN w f (Hj 0) none]) nE (AM.mem ⟨C,tQ⟩) (A2.mem ⟨AN.mono,tQ⟩) |>.less sR sR nE (mR [1,0])) ?_;rintro⟨i,O⟩ hi;dsimp only at hi ⊢;refine Aa 6 [] (λ_=>Bb 54 C C (λh3=>?_) (λh3=>?_));refine Aa 6 [] (λ_=>?_);have hpl:C5.length≤1000:=dC;have hil:i<C5.length:=by have:=dT h3;omega
 obtain⟨p,hx⟩:∃v,C5[i]?=some v:=⟨_,List.getElem?_eq_getElem hil⟩;have F:p.2.2.bnd:=Oz p (List.mem_of_getElem? hx);refine Nq (α:=Nat×oA×Nat) (λx=>pa=some ⟨x.1,0,none⟩) (λx=>[⟨x.1,0+i*6,pC p x.2.1 x.2.2⟩]) (λx=>[λw f=>Ai w f p.2.2.kids x.2.1 x.2.2]) (λw f D=>let ⟨_,b,xs,h1,h2,h3⟩:=D.f0;let ⟨a,c,h4,h5⟩:=Dk.get h3 h2 hx;⟨(b,a,c),h1,(λe he=>by cases he with|head=>exact h4|tail _ h=>cases h),AM.mem ⟨h5,tQ⟩⟩) (λx=>A2.mem ⟨Ai.mono,tQ⟩) ?_;rintro⟨pb,Q,U⟩ rfl;refine Aa 7 [100,0,0] (aI oM<|y2<|λb7=>y<|λ_=>?_);refine YJ (α:=oA) (λx=>True) (λx=>(E5 2 (pB A.cb) 6 (.pointer x) 51 (.slice (some (⟨pb,0,none⟩:Addr)) C5.length pc) 52 (iV (C5.length:Int)) 53 (iV (i:Int)))) (λx=>⟨λ_=>False,BD A,Aw 76 140 A (⟨[],0,ZG 8,[],[],0-1⟩:CS),w,f⟩) (λx=>[]) (λx=>[]) (λx=>[]) (λx=>[λw f=>VP w f C5 (some (⟨pb,0,none⟩:Addr)) pc,λw f=>AN w f (RC p::Hj i) x]) ?_ ?_;refine MT (λw=>AS w A.cb [pB A.sb,.map (some A.km),.map (some A.dm),.map (some A.rm),iV (0-1)] 76) (λw f h _=>h.blk) [0] Aq (rd [0,1,2,3,5,6,7,8,12,13,14,15,18] (.br 4 (.br 9 (.br 10 (.br 11 (.br 16 (.rd 17 (.rd 19 (.br 20 (.rd 21 .fin) .fin))) .fin) (.br 16 (.br 11 (.rd 17 (.rd 19 (.br 20 (.rd 21 .fin) .fin))) .fin) .fin)) (.br 16 (.br 10 (.br 11 (.rd 17 (.rd 19 (.br 20 (.rd 21 .fin) .fin))) .fin) .fin) .fin)) (.br 16 (.br 9 (.br 10 (.br 11 (.rd 17 (.rd 19 (.br 20 (.rd 21 .fin) .fin))) .fin) .fin) .fin) .fin)) (.br 9 (.br 4 (.br 10 (.br 11 (.br 16 (.rd 17 (.rd 19 (.br 20 (.rd 21 .fin) .fin))) .fin) (.br 16 (.br 11 (.rd 17 (.rd 19 (.br 20 (.rd 21 .fin) .fin))) .fin) .fin)) (.br 16 (.br 10 (.br 11 (.rd 17 (.rd 19 (.br 20 (.rd 21 .fin) .fin))) .fin) .fin) .fin)) (.br 10 (.br 4 (.br 11 (.br 16 (.rd 17 (.rd 19 (.br 20 (.rd 21 .fin) .fin))) .fin) (.br 16 (.br 11 (.rd 17 (.rd 19 (.br 20 (.rd 21 .fin) .fin))) .fin) .fin)) (.br 16 (.br 4 (.br 11 (.rd 17 (.rd 19 (.br 20 (.rd 21 .fin) .fin))) .fin) .fin) .fin)) (.br 16 (.br 4 (.br 10 (.br 11 (.rd 17 (.rd 19 (.br 20 (.rd 21 .fin) .fin))) .fin) .fin) (.br 10 (.br 4 (.br 11 (.rd 17 (.rd 19 (.br 20 (.rd 21 .fin) .fin))) .fin) .fin) .fin)) .fin))) (.br 16 (.br 4 (.br 9 (.br 10 (.br 11 (.rd 17 (.rd 19 (.br 20 (.rd 21 .fin) .fin))) .fin) .fin) .fin) (.br 9 (.br 4 (.br 10 (.br 11 (.rd 17 (.rd 19 (.br 20 (.rd 21 .fin) .fin))) .fin) .fin) (.br 10 (.br 4 (.br 11 (.rd 17 (.rd 19 (.br 20 (.rd 21 .fin) .fin))) .fin) .fin) .fin)) .fin)) .fin)))) C kR kR kR (λ_ _ _ _ _ h=>h)<|A9 7 [0,0] (y<|y<|λ_=>HX C C C (λw hK=>(Am C Iv hK.2.2 C:AR _ _ _ _ _ (iV (0-1)) _))<|A9 3 [] (λ_=>HX C C C (λw hK=>(Am C Iv hK.2.2 C:AR _ _ _ _ _ (iV (0-1)) _))<|A9 1 [] (λ_=>Ah C ?_ ?_)));refine Aa 2 [] (λb8=>λ_=>Bl [1] (λw f h _=>h.blk) C (λ_ h=>h)<|Ah C ?_ ?_);refine BA C C (eC Hr C C) (λw f D=>Ej w f D.vl (0-1)) (λx=>trivial) ?_;rintro⟨⟩ -;refine Aa 1 [] (λ_=>Bl [1] (λw f h _=>h.blk) C (λ_ h=>h)<|Ah C ?_ ?_)
 refine Aa 2 [] (λb9=>λ_=>Bl [2] (λw f h _=>h.blk) C (λ_ h=>h)<|Ah C ?_ ?_);refine Dg 1 C C<|Dg 0 C C<|BA (α:=oA×Nat) C C (eC D5 C C) (λw f D=>BJ w f D.vl [1] (some ⟨b8,0,none⟩) 1 (T1.var (0-1)).one (some ⟨b9,0,none⟩) 1 dC dC tQ ⟨Nat.le_refl _,.inr ⟨b8,0,C,D.b1⟩⟩ (Dy (l:=[(.var (0-1),none,0)]) ⟨Ai.nil _ _ _ _,tQ⟩ D.b0) p.2.2 Q U F D.f0) (λ_=>⟨Ai.mono,tQ⟩) ?_;rintro⟨G,J⟩ -;refine Aa 1 [] (λ_=>Bl [0] (λw f h _=>h.blk) C (λ_ h=>.tail _ (.tail _ h))<|Ah C ?_ Aj);refine Aa 2 [] (λb10=>λ_=>Bl [1] (λw f h _=>h.blk) C (λ_ h=>.tail _ (.tail _ h))<|A9 2 [] (λ_=>Ah C ?_ Aj));exact Aa 2 [] (λb11=>λ_=>Bl [2] (λw f h _=>h.blk) C (λ_ h=>.tail _ (.tail _ h))<|A9 1 [] (λ_=>Bx<|Dg 0 C C<|Dg 0 C C<|Mn (some ⟨b11,0,none⟩) tQ lE (λw f D=>⟨f,(D.more (B':=[]) (F':=[λw f=>AN w f (RC p::Hj i) (some ⟨b11,0,none⟩)]) nE (AM.mem ⟨⟨b11,G,J,some ⟨b10,0,none⟩,1,O,C,D.b1,D.f0,⟨Nat.le_refl _,.inr ⟨b10,0,C,D.b0⟩⟩,D.f3⟩,tQ⟩) (A2.mem ⟨AN.mono,tQ⟩)).less (sD sZ) sR nE (mR [3,0])⟩)));refine Ah C ?_ Aj;refine Aa 2 [] (λb12=>λ_=>Bl [3] (λw f h _=>h.blk) C (λ_ h=>h)<|Ah C ?_ Aj);refine Dg 2 C C<|Dg 1 C C<|BA (α:=oA×Nat) C C (eC D5 C C) (λw f D=>BJ w f D.vl [1] (some ⟨b8,0,none⟩) 1 (T1.var (0-1)).one (some ⟨b9,0,none⟩) 1 dC dC tQ ⟨Nat.le_refl _,.inr ⟨b8,0,C,D.b1⟩⟩ (Dy (l:=[(.var (0-1),none,0)]) ⟨Ai.nil _ _ _ _,tQ⟩ D.b0) p.2.2 Q U F D.f0) (λ_=>⟨Ai.mono,tQ⟩) ?_;rintro⟨G,J⟩ -;refine Aa 1 [] (λ_=>Bl [1] (λw f h _=>h.blk) C (λ_ h=>.tail _ (.tail _ h))<|A9 2 [] (λ_=>Ah C ?_ Aj));exact Aa 2 [] (λb13=>λ_=>Bl [2] (λw f h _=>h.blk) C (λ_ h=>.tail _ (.tail _ h))<|A9 1 [] (λ_=>Bx<|Dg 0 C C<|Dg 0 C C<|Mn (some ⟨b13,0,none⟩) tQ lE (λw f D=>⟨f,(D.more (B':=[]) (F':=[λw f=>AN w f (RC p::Hj i) (some ⟨b13,0,none⟩)]) nE (AM.mem ⟨⟨b13,G,J,some ⟨b12,0,none⟩,1,O,C,D.b1,D.f0,⟨Nat.le_refl _,.inr ⟨b12,0,C,D.b0⟩⟩,D.f3⟩,tQ⟩) (A2.mem ⟨AN.mono,tQ⟩)).less (sD sZ) sR nE (mR [3,0])⟩)));refine Ah C ?_ Aj;refine Aa 2 [] (λb14=>λ_=>Bl [2] (λw f h _=>h.blk) C (λ_ h=>h)<|Ah C ?_ Aj);refine Aa 2 [] (λb15=>λ_=>Bl [3] (λw f h _=>h.blk) C (λ_ h=>h)<|Ah C ?_ Aj);refine Dg 2 C C<|Dg 0 C C<|BA (α:=oA×Nat) C C (eC D5 C C) (λw f D=>BJ w f D.vl [1] (some ⟨b8,0,none⟩) 1 (T1.var (0-1)).one (some ⟨b15,0,none⟩) 1 dC dC tQ ⟨Nat.le_refl _,.inr ⟨b8,0,C,D.b1⟩⟩ (Dy (l:=[(.var (0-1),none,0)]) ⟨Ai.nil _ _ _ _,tQ⟩ D.b0) p.2.2 Q U F D.f0) (λ_=>⟨Ai.mono,tQ⟩) ?_;rintro⟨G,J⟩ -;refine Aa 1 [] (λ_=>Bl [1] (λw f h _=>h.blk) C (λ_ h=>.tail _ (.tail _ h))<|A9 2 [] (λ_=>Ah C ?_ Aj))
 exact Aa 2 [] (λb16=>λ_=>Bl [2] (λw f h _=>h.blk) C (λ_ h=>.tail _ (.tail _ h))<|A9 1 [] (λ_=>Bx<|Dg 0 C C<|Dg 0 C C<|Mn (some ⟨b16,0,none⟩) tQ lE (λw f D=>⟨f,(D.more (B':=[]) (F':=[λw f=>AN w f (RC p::Hj i) (some ⟨b16,0,none⟩)]) nE (AM.mem ⟨⟨b16,G,J,some ⟨b14,0,none⟩,1,O,C,D.b1,D.f0,⟨Nat.le_refl _,.inr ⟨b14,0,C,D.b0⟩⟩,D.f3⟩,tQ⟩) (A2.mem ⟨AN.mono,tQ⟩)).less (sD sZ) sR nE (mR [3,0])⟩)));refine Ah C ?_ Aj;refine Aa 2 [] (λb17=>λ_=>Bl [2] (λw f h _=>h.blk) C (λ_ h=>h)<|Ah C ?_ Aj);refine BA C C (eC Hr C C) (λw f D=>Ej w f D.vl (0-1)) (λx=>trivial) ?_;rintro⟨⟩ -;refine Aa 1 [] (λ_=>Bl [2] (λw f h _=>h.blk) C (λ_ h=>h)<|Ah C ?_ Aj);refine Aa 2 [] (λb18=>λ_=>Bl [3] (λw f h _=>h.blk) C (λ_ h=>h)<|Ah C ?_ Aj);refine Dg 2 C C<|Dg 0 C C<|BA (α:=oA×Nat) C C (eC D5 C C) (λw f D=>BJ w f D.vl [1] (some ⟨b8,0,none⟩) 1 (T1.var (0-1)).one (some ⟨b18,0,none⟩) 1 dC dC tQ ⟨Nat.le_refl _,.inr ⟨b8,0,C,D.b1⟩⟩ (Dy (l:=[(.var (0-1),none,0)]) ⟨Ai.nil _ _ _ _,tQ⟩ D.b0) p.2.2 Q U F D.f0) (λ_=>⟨Ai.mono,tQ⟩) ?_;rintro⟨G,J⟩ -;refine Aa 1 [] (λ_=>Bl [1] (λw f h _=>h.blk) C (λ_ h=>.tail _ (.tail _ h))<|A9 2 [] (λ_=>Ah C ?_ Aj));exact Aa 2 [] (λb19=>λ_=>Bl [2] (λw f h _=>h.blk) C (λ_ h=>.tail _ (.tail _ h))<|A9 1 [] (λ_=>Bx<|Dg 0 C C<|Dg 0 C C<|Mn (some ⟨b19,0,none⟩) tQ lE (λw f D=>⟨f,(D.more (B':=[]) (F':=[λw f=>AN w f (RC p::Hj i) (some ⟨b19,0,none⟩)]) nE (AM.mem ⟨⟨b19,G,J,some ⟨b17,0,none⟩,1,O,C,D.b1,D.f0,⟨Nat.le_refl _,.inr ⟨b17,0,C,D.b0⟩⟩,D.f3⟩,tQ⟩) (A2.mem ⟨AN.mono,tQ⟩)).less (sD sZ) sR nE (mR [3,0])⟩)));refine Ah C ?_ ?_;refine BA C C (eC Hr C C) (λw f D=>Ej w f D.vl (0-1)) (λx=>trivial) ?_;rintro⟨⟩ -;refine Aa 1 [] (λ_=>Bl [0] (λw f h _=>h.blk) C (λ_ h=>h)<|Ah C ?_ ?_);refine Aa 2 [] (λW=>λ_=>Bl [1] (λw f h _=>h.blk) C (λ_ h=>h)<|Ah C ?_ ?_);refine Aa 2 [] (λb21=>λ_=>Bl [2] (λw f h _=>h.blk) C (λ_ h=>h)<|Ah C ?_ ?_);refine Dg 1 C C<|Dg 0 C C<|BA (α:=oA×Nat) C C (eC D5 C C) (λw f D=>BJ w f D.vl [1] (some ⟨W,0,none⟩) 1 (T1.var (0-1)).one (some ⟨b21,0,none⟩) 1 dC dC tQ ⟨Nat.le_refl _,.inr ⟨W,0,C,D.b1⟩⟩ (Dy (l:=[(.var (0-1),none,0)]) ⟨Ai.nil _ _ _ _,tQ⟩ D.b0) p.2.2 Q U F D.f0) (λ_=>⟨Ai.mono,tQ⟩) ?_;rintro⟨G,J⟩ -;refine Aa 1 [] (λ_=>Bl [0] (λw f h _=>h.blk) C (λ_ h=>.tail _ (.tail _ h))<|Ah C ?_ Aj);refine Aa 2 [] (λb22=>λ_=>Bl [1] (λw f h _=>h.blk) C (λ_ h=>.tail _ (.tail _ h))<|A9 2 [] (λ_=>Ah C ?_ Aj))
 exact Aa 2 [] (λb23=>λ_=>Bl [2] (λw f h _=>h.blk) C (λ_ h=>.tail _ (.tail _ h))<|A9 1 [] (λ_=>Bx<|Dg 0 C C<|Dg 0 C C<|Mn (some ⟨b23,0,none⟩) tQ lE (λw f D=>⟨f,(D.more (B':=[]) (F':=[λw f=>AN w f (RC p::Hj i) (some ⟨b23,0,none⟩)]) nE (AM.mem ⟨⟨b23,G,J,some ⟨b22,0,none⟩,1,O,C,D.b1,D.f0,⟨Nat.le_refl _,.inr ⟨b22,0,C,D.b0⟩⟩,D.f3⟩,tQ⟩) (A2.mem ⟨AN.mono,tQ⟩)).less (sD sZ) sR nE (mR [3,0])⟩)));refine Ah C ?_ Aj;refine Aa 2 [] (λb24=>λ_=>Bl [3] (λw f h _=>h.blk) C (λ_ h=>h)<|Ah C ?_ Aj);refine Dg 2 C C<|Dg 1 C C<|BA (α:=oA×Nat) C C (eC D5 C C) (λw f D=>BJ w f D.vl [1] (some ⟨W,0,none⟩) 1 (T1.var (0-1)).one (some ⟨b21,0,none⟩) 1 dC dC tQ ⟨Nat.le_refl _,.inr ⟨W,0,C,D.b1⟩⟩ (Dy (l:=[(.var (0-1),none,0)]) ⟨Ai.nil _ _ _ _,tQ⟩ D.b0) p.2.2 Q U F D.f0) (λ_=>⟨Ai.mono,tQ⟩) ?_;rintro⟨G,J⟩ -;refine Aa 1 [] (λ_=>Bl [1] (λw f h _=>h.blk) C (λ_ h=>.tail _ (.tail _ h))<|A9 2 [] (λ_=>Ah C ?_ Aj));exact Aa 2 [] (λb25=>λ_=>Bl [2] (λw f h _=>h.blk) C (λ_ h=>.tail _ (.tail _ h))<|A9 1 [] (λ_=>Bx<|Dg 0 C C<|Dg 0 C C<|Mn (some ⟨b25,0,none⟩) tQ lE (λw f D=>⟨f,(D.more (B':=[]) (F':=[λw f=>AN w f (RC p::Hj i) (some ⟨b25,0,none⟩)]) nE (AM.mem ⟨⟨b25,G,J,some ⟨b24,0,none⟩,1,O,C,D.b1,D.f0,⟨Nat.le_refl _,.inr ⟨b24,0,C,D.b0⟩⟩,D.f3⟩,tQ⟩) (A2.mem ⟨AN.mono,tQ⟩)).less (sD sZ) sR nE (mR [3,0])⟩)));refine Ah C ?_ Aj;refine Aa 2 [] (λb26=>λ_=>Bl [2] (λw f h _=>h.blk) C (λ_ h=>h)<|Ah C ?_ Aj);refine Aa 2 [] (λb27=>λ_=>Bl [3] (λw f h _=>h.blk) C (λ_ h=>h)<|Ah C ?_ Aj);refine Dg 2 C C<|Dg 0 C C<|BA (α:=oA×Nat) C C (eC D5 C C) (λw f D=>BJ w f D.vl [1] (some ⟨W,0,none⟩) 1 (T1.var (0-1)).one (some ⟨b27,0,none⟩) 1 dC dC tQ ⟨Nat.le_refl _,.inr ⟨W,0,C,D.b1⟩⟩ (Dy (l:=[(.var (0-1),none,0)]) ⟨Ai.nil _ _ _ _,tQ⟩ D.b0) p.2.2 Q U F D.f0) (λ_=>⟨Ai.mono,tQ⟩) ?_;rintro⟨G,J⟩ -;refine Aa 1 [] (λ_=>Bl [1] (λw f h _=>h.blk) C (λ_ h=>.tail _ (.tail _ h))<|A9 2 [] (λ_=>Ah C ?_ Aj));exact Aa 2 [] (λb28=>λ_=>Bl [2] (λw f h _=>h.blk) C (λ_ h=>.tail _ (.tail _ h))<|A9 1 [] (λ_=>Bx<|Dg 0 C C<|Dg 0 C C<|Mn (some ⟨b28,0,none⟩) tQ lE (λw f D=>⟨f,(D.more (B':=[]) (F':=[λw f=>AN w f (RC p::Hj i) (some ⟨b28,0,none⟩)]) nE (AM.mem ⟨⟨b28,G,J,some ⟨b26,0,none⟩,1,O,C,D.b1,D.f0,⟨Nat.le_refl _,.inr ⟨b26,0,C,D.b0⟩⟩,D.f3⟩,tQ⟩) (A2.mem ⟨AN.mono,tQ⟩)).less (sD sZ) sR nE (mR [3,0])⟩)));refine Ah C ?_ ?_;refine Aa 2 [] (λb29=>λ_=>Bl [1] (λw f h _=>h.blk) C (λ_ h=>h)<|Ah C ?_ ?_);refine Aa 2 [] (λb30=>λ_=>Bl [2] (λw f h _=>h.blk) C (λ_ h=>h)<|Ah C ?_ ?_)
 refine Dg 0 C C<|Dg 0 C C<|BA (α:=oA×Nat) C C (eC D5 C C) (λw f D=>BJ w f D.vl [1] (some ⟨b30,0,none⟩) 1 (T1.var (0-1)).one (some ⟨b29,0,none⟩) 1 dC dC tQ ⟨Nat.le_refl _,.inr ⟨b30,0,C,D.b1⟩⟩ (Dy (l:=[(.var (0-1),none,0)]) ⟨Ai.nil _ _ _ _,tQ⟩ D.b0) p.2.2 Q U F D.f0) (λ_=>⟨Ai.mono,tQ⟩) ?_;rintro⟨G,J⟩ -;refine Aa 1 [] (λ_=>Bl [0] (λw f h _=>h.blk) C (λ_ h=>.tail _ (.tail _ h))<|Ah C ?_ Aj);refine Aa 2 [] (λb31=>λ_=>Bl [1] (λw f h _=>h.blk) C (λ_ h=>.tail _ (.tail _ h))<|A9 2 [] (λ_=>Ah C ?_ Aj));exact Aa 2 [] (λb32=>λ_=>Bl [2] (λw f h _=>h.blk) C (λ_ h=>.tail _ (.tail _ h))<|A9 1 [] (λ_=>Bx<|Dg 0 C C<|Dg 0 C C<|Mn (some ⟨b32,0,none⟩) tQ lE (λw f D=>⟨f,(D.more (B':=[]) (F':=[λw f=>AN w f (RC p::Hj i) (some ⟨b32,0,none⟩)]) nE (AM.mem ⟨⟨b32,G,J,some ⟨b31,0,none⟩,1,O,C,D.b1,D.f0,⟨Nat.le_refl _,.inr ⟨b31,0,C,D.b0⟩⟩,D.f3⟩,tQ⟩) (A2.mem ⟨AN.mono,tQ⟩)).less (sD sZ) sR nE (mR [3,0])⟩)));refine Ah C ?_ Aj;refine Aa 2 [] (λb33=>λ_=>Bl [3] (λw f h _=>h.blk) C (λ_ h=>h)<|Ah C ?_ Aj);refine Dg 1 C C<|Dg 1 C C<|BA (α:=oA×Nat) C C (eC D5 C C) (λw f D=>BJ w f D.vl [1] (some ⟨b30,0,none⟩) 1 (T1.var (0-1)).one (some ⟨b29,0,none⟩) 1 dC dC tQ ⟨Nat.le_refl _,.inr ⟨b30,0,C,D.b1⟩⟩ (Dy (l:=[(.var (0-1),none,0)]) ⟨Ai.nil _ _ _ _,tQ⟩ D.b0) p.2.2 Q U F D.f0) (λ_=>⟨Ai.mono,tQ⟩) ?_;rintro⟨G,J⟩ -;refine Aa 1 [] (λ_=>Bl [1] (λw f h _=>h.blk) C (λ_ h=>.tail _ (.tail _ h))<|A9 2 [] (λ_=>Ah C ?_ Aj));exact Aa 2 [] (λb34=>λ_=>Bl [2] (λw f h _=>h.blk) C (λ_ h=>.tail _ (.tail _ h))<|A9 1 [] (λ_=>Bx<|Dg 0 C C<|Dg 0 C C<|Mn (some ⟨b34,0,none⟩) tQ lE (λw f D=>⟨f,(D.more (B':=[]) (F':=[λw f=>AN w f (RC p::Hj i) (some ⟨b34,0,none⟩)]) nE (AM.mem ⟨⟨b34,G,J,some ⟨b33,0,none⟩,1,O,C,D.b1,D.f0,⟨Nat.le_refl _,.inr ⟨b33,0,C,D.b0⟩⟩,D.f3⟩,tQ⟩) (A2.mem ⟨AN.mono,tQ⟩)).less (sD sZ) sR nE (mR [3,0])⟩)));refine Ah C ?_ Aj;refine Aa 2 [] (λb35=>λ_=>Bl [2] (λw f h _=>h.blk) C (λ_ h=>h)<|Ah C ?_ Aj);refine Aa 2 [] (λb36=>λ_=>Bl [3] (λw f h _=>h.blk) C (λ_ h=>h)<|Ah C ?_ Aj);refine Dg 0 C C<|Dg 1 C C<|BA (α:=oA×Nat) C C (eC D5 C C) (λw f D=>BJ w f D.vl [1] (some ⟨b36,0,none⟩) 1 (T1.var (0-1)).one (some ⟨b29,0,none⟩) 1 dC dC tQ ⟨Nat.le_refl _,.inr ⟨b36,0,C,D.b1⟩⟩ (Dy (l:=[(.var (0-1),none,0)]) ⟨Ai.nil _ _ _ _,tQ⟩ D.b0) p.2.2 Q U F D.f0) (λ_=>⟨Ai.mono,tQ⟩) ?_;rintro⟨G,J⟩ -;refine Aa 1 [] (λ_=>Bl [1] (λw f h _=>h.blk) C (λ_ h=>.tail _ (.tail _ h))<|A9 2 [] (λ_=>Ah C ?_ Aj))
 exact Aa 2 [] (λb37=>λ_=>Bl [2] (λw f h _=>h.blk) C (λ_ h=>.tail _ (.tail _ h))<|A9 1 [] (λ_=>Bx<|Dg 0 C C<|Dg 0 C C<|Mn (some ⟨b37,0,none⟩) tQ lE (λw f D=>⟨f,(D.more (B':=[]) (F':=[λw f=>AN w f (RC p::Hj i) (some ⟨b37,0,none⟩)]) nE (AM.mem ⟨⟨b37,G,J,some ⟨b35,0,none⟩,1,O,C,D.b1,D.f0,⟨Nat.le_refl _,.inr ⟨b35,0,C,D.b0⟩⟩,D.f3⟩,tQ⟩) (A2.mem ⟨AN.mono,tQ⟩)).less (sD sZ) sR nE (mR [3,0])⟩)));refine Ah C ?_ Aj;refine Aa 2 [] (λb38=>λ_=>Bl [1] (λw f h _=>h.blk) C (λ_ h=>h)<|Ah C ?_ ?_);refine Aa 2 [] (λb39=>λ_=>Bl [2] (λw f h _=>h.blk) C (λ_ h=>h)<|Ah C ?_ Aj);refine Aa 2 [] (λb40=>λ_=>Bl [3] (λw f h _=>h.blk) C (λ_ h=>h)<|Ah C ?_ Aj);refine Dg 1 C C<|Dg 0 C C<|BA (α:=oA×Nat) C C (eC D5 C C) (λw f D=>BJ w f D.vl [1] (some ⟨b39,0,none⟩) 1 (T1.var (0-1)).one (some ⟨b40,0,none⟩) 1 dC dC tQ ⟨Nat.le_refl _,.inr ⟨b39,0,C,D.b1⟩⟩ (Dy (l:=[(.var (0-1),none,0)]) ⟨Ai.nil _ _ _ _,tQ⟩ D.b0) p.2.2 Q U F D.f0) (λ_=>⟨Ai.mono,tQ⟩) ?_;rintro⟨G,J⟩ -;refine Aa 1 [] (λ_=>Bl [1] (λw f h _=>h.blk) C (λ_ h=>.tail _ (.tail _ h))<|A9 2 [] (λ_=>Ah C ?_ Aj));exact Aa 2 [] (λb41=>λ_=>Bl [2] (λw f h _=>h.blk) C (λ_ h=>.tail _ (.tail _ h))<|A9 1 [] (λ_=>Bx<|Dg 0 C C<|Dg 0 C C<|Mn (some ⟨b41,0,none⟩) tQ lE (λw f D=>⟨f,(D.more (B':=[]) (F':=[λw f=>AN w f (RC p::Hj i) (some ⟨b41,0,none⟩)]) nE (AM.mem ⟨⟨b41,G,J,some ⟨b38,0,none⟩,1,O,C,D.b1,D.f0,⟨Nat.le_refl _,.inr ⟨b38,0,C,D.b0⟩⟩,D.f3⟩,tQ⟩) (A2.mem ⟨AN.mono,tQ⟩)).less (sD sZ) sR nE (mR [3,0])⟩)));refine Ah C ?_ Aj;refine Aa 2 [] (λb42=>λ_=>Bl [2] (λw f h _=>h.blk) C (λ_ h=>h)<|Ah C ?_ Aj);refine Aa 2 [] (λb43=>λ_=>Bl [3] (λw f h _=>h.blk) C (λ_ h=>h)<|Ah C ?_ Aj);refine Dg 0 C C<|Dg 0 C C<|BA (α:=oA×Nat) C C (eC D5 C C) (λw f D=>BJ w f D.vl [1] (some ⟨b43,0,none⟩) 1 (T1.var (0-1)).one (some ⟨b42,0,none⟩) 1 dC dC tQ ⟨Nat.le_refl _,.inr ⟨b43,0,C,D.b1⟩⟩ (Dy (l:=[(.var (0-1),none,0)]) ⟨Ai.nil _ _ _ _,tQ⟩ D.b0) p.2.2 Q U F D.f0) (λ_=>⟨Ai.mono,tQ⟩) ?_;rintro⟨G,J⟩ -;refine Aa 1 [] (λ_=>Bl [1] (λw f h _=>h.blk) C (λ_ h=>.tail _ (.tail _ h))<|A9 2 [] (λ_=>Ah C ?_ Aj));exact Aa 2 [] (λb44=>λ_=>Bl [2] (λw f h _=>h.blk) C (λ_ h=>.tail _ (.tail _ h))<|A9 1 [] (λ_=>Bx<|Dg 0 C C<|Dg 0 C C<|Mn (some ⟨b44,0,none⟩) tQ lE (λw f D=>⟨f,(D.more (B':=[]) (F':=[λw f=>AN w f (RC p::Hj i) (some ⟨b44,0,none⟩)]) nE (AM.mem ⟨⟨b44,G,J,some ⟨b38,0,none⟩,1,O,C,D.b1,D.f0,⟨Nat.le_refl _,.inr ⟨b38,0,C,D.b0⟩⟩,D.f3⟩,tQ⟩) (A2.mem ⟨AN.mono,tQ⟩)).less (sD sZ) sR nE (mR [3,0])⟩)));refine Ah C ?_ Aj;refine Aa 2 [] (λY=>λ_=>Bl [1] (λw f h _=>h.blk) C (λ_ h=>h)<|Ah C ?_ ?_);refine Aa 2 [] (λb46=>λ_=>Bl [2] (λw f h _=>h.blk) C (λ_ h=>h)<|Ah C ?_ Aj)
 refine BA C C (eC Hr C C) (λw f D=>Ej w f D.vl (0-1)) (λx=>trivial) ?_;rintro⟨⟩ -;refine Aa 1 [] (λ_=>Bl [2] (λw f h _=>h.blk) C (λ_ h=>h)<|Ah C ?_ Aj);refine Aa 2 [] (λb47=>λ_=>Bl [3] (λw f h _=>h.blk) C (λ_ h=>h)<|Ah C ?_ Aj);refine Dg 1 C C<|Dg 0 C C<|BA (α:=oA×Nat) C C (eC D5 C C) (λw f D=>BJ w f D.vl [1] (some ⟨b46,0,none⟩) 1 (T1.var (0-1)).one (some ⟨b47,0,none⟩) 1 dC dC tQ ⟨Nat.le_refl _,.inr ⟨b46,0,C,D.b1⟩⟩ (Dy (l:=[(.var (0-1),none,0)]) ⟨Ai.nil _ _ _ _,tQ⟩ D.b0) p.2.2 Q U F D.f0) (λ_=>⟨Ai.mono,tQ⟩) ?_;rintro⟨G,J⟩ -;refine Aa 1 [] (λ_=>Bl [1] (λw f h _=>h.blk) C (λ_ h=>.tail _ (.tail _ h))<|A9 2 [] (λ_=>Ah C ?_ Aj));exact Aa 2 [] (λb48=>λ_=>Bl [2] (λw f h _=>h.blk) C (λ_ h=>.tail _ (.tail _ h))<|A9 1 [] (λ_=>Bx<|Dg 0 C C<|Dg 0 C C<|Mn (some ⟨b48,0,none⟩) tQ lE (λw f D=>⟨f,(D.more (B':=[]) (F':=[λw f=>AN w f (RC p::Hj i) (some ⟨b48,0,none⟩)]) nE (AM.mem ⟨⟨b48,G,J,some ⟨Y,0,none⟩,1,O,C,D.b1,D.f0,⟨Nat.le_refl _,.inr ⟨Y,0,C,D.b0⟩⟩,D.f3⟩,tQ⟩) (A2.mem ⟨AN.mono,tQ⟩)).less (sD sZ) sR nE (mR [3,0])⟩)));refine Ah C ?_ Aj;refine BA C C (eC Hr C C) (λw f D=>Ej w f D.vl (0-1)) (λx=>trivial) ?_;rintro⟨⟩ -;refine Aa 1 [] (λ_=>Bl [1] (λw f h _=>h.blk) C (λ_ h=>h)<|Ah C ?_ ?_);refine Aa 2 [] (λb49=>λ_=>Bl [2] (λw f h _=>h.blk) C (λ_ h=>h)<|Ah C ?_ Aj);refine Aa 2 [] (λb50=>λ_=>Bl [3] (λw f h _=>h.blk) C (λ_ h=>h)<|Ah C ?_ Aj);refine Dg 1 C C<|Dg 0 C C<|BA (α:=oA×Nat) C C (eC D5 C C) (λw f D=>BJ w f D.vl [1] (some ⟨b49,0,none⟩) 1 (T1.var (0-1)).one (some ⟨b50,0,none⟩) 1 dC dC tQ ⟨Nat.le_refl _,.inr ⟨b49,0,C,D.b1⟩⟩ (Dy (l:=[(.var (0-1),none,0)]) ⟨Ai.nil _ _ _ _,tQ⟩ D.b0) p.2.2 Q U F D.f0) (λ_=>⟨Ai.mono,tQ⟩) ?_;rintro⟨G,J⟩ -;refine Aa 1 [] (λ_=>Bl [1] (λw f h _=>h.blk) C (λ_ h=>.tail _ (.tail _ h))<|A9 2 [] (λ_=>Ah C ?_ Aj));exact Aa 2 [] (λb51=>λ_=>Bl [2] (λw f h _=>h.blk) C (λ_ h=>.tail _ (.tail _ h))<|A9 1 [] (λ_=>Bx<|Dg 0 C C<|Dg 0 C C<|Mn (some ⟨b51,0,none⟩) tQ lE (λw f D=>⟨f,(D.more (B':=[]) (F':=[λw f=>AN w f (RC p::Hj i) (some ⟨b51,0,none⟩)]) nE (AM.mem ⟨⟨b51,G,J,some ⟨Y,0,none⟩,1,O,C,D.b1,D.f0,⟨Nat.le_refl _,.inr ⟨Y,0,C,D.b0⟩⟩,D.f3⟩,tQ⟩) (A2.mem ⟨AN.mono,tQ⟩)).less (sD sZ) sR nE (mR [3,0])⟩)));refine Ah C ?_ Aj;refine Aa 2 [] (λb52=>λ_=>Bl [2] (λw f h _=>h.blk) C (λ_ h=>h)<|Ah C ?_ Aj);refine Aa 2 [] (λb53=>λ_=>Bl [3] (λw f h _=>h.blk) C (λ_ h=>h)<|Ah C ?_ Aj)
 refine Dg 0 C C<|Dg 0 C C<|BA (α:=oA×Nat) C C (eC D5 C C) (λw f D=>BJ w f D.vl [1] (some ⟨b53,0,none⟩) 1 (T1.var (0-1)).one (some ⟨b52,0,none⟩) 1 dC dC tQ ⟨Nat.le_refl _,.inr ⟨b53,0,C,D.b1⟩⟩ (Dy (l:=[(.var (0-1),none,0)]) ⟨Ai.nil _ _ _ _,tQ⟩ D.b0) p.2.2 Q U F D.f0) (λ_=>⟨Ai.mono,tQ⟩) ?_;rintro⟨G,J⟩ -;refine Aa 1 [] (λ_=>Bl [1] (λw f h _=>h.blk) C (λ_ h=>.tail _ (.tail _ h))<|A9 2 [] (λ_=>Ah C ?_ Aj));exact Aa 2 [] (λb54=>λ_=>Bl [2] (λw f h _=>h.blk) C (λ_ h=>.tail _ (.tail _ h))<|A9 1 [] (λ_=>Bx<|Dg 0 C C<|Dg 0 C C<|Mn (some ⟨b54,0,none⟩) tQ lE (λw f D=>⟨f,(D.more (B':=[]) (F':=[λw f=>AN w f (RC p::Hj i) (some ⟨b54,0,none⟩)]) nE (AM.mem ⟨⟨b54,G,J,some ⟨Y,0,none⟩,1,O,C,D.b1,D.f0,⟨Nat.le_refl _,.inr ⟨Y,0,C,D.b0⟩⟩,D.f3⟩,tQ⟩) (A2.mem ⟨AN.mono,tQ⟩)).less (sD sZ) sR nE (mR [3,0])⟩)));rintro ea2 -;dsimp only;exact Aa 6 [] (aI ⟨oM,oM⟩<|λ_=>DW ((i+1,ea2)) (show C5.length-(i+1)<C5.length-i by omega) (show i+1≤_ by omega) lE (λw f D=>⟨_,by dsimp only;rw[Y8 hx];exact D⟩));refine Aa 3 [] (λ_=>GP<|Aa 11 [] (λ_=>?_));obtain rfl:i=C5.length:=by have:=dF h3;omega
 exact Bc (λw f D=>C7 C (Al C) (Al C)) (λw f D=>⟨(A,O),f,C,hA,D.exm,(λb hb=>let ⟨h1,h2,h3⟩:=D.mi b hb;h3.elim (λh=>.inr ⟨h,h1,h2⟩) .inl),D.res,⟨UG▸D.f1,tQ⟩⟩)
theorem TG(w:wO)(c2 c3 c4:Nat) :
  CallsD prog 28 [pB c2,pB c3,pB c4].toArray .returning w λr m w'=>∃x,r=.returned x∧m=.returning∧AY w w':=by
 refine D9 (R:=λw'=>AY w w') func28 C C C C OS<|(?_:A7 prog _ (FX prog _ (λ_ w'=>AY w w') λ_ _=>False) [] (X0 w (λ_=>0)) [] [] [] (.code _) [] _ []) w (λ_=>0) (CC (λ_ _=>C) tQ tQ);exact Aa 3 [] (λ_=>FJ C C (λw f h=>QI R9 C)<|Aa 7 [] (λ_=>kQ (λw f h=>DZ C) (λw f h=>h.exm.stp.ext)))
theorem VW(w:wO)(f:Fq)(K:Vl w f)(c2 c3 c4:Nat)(v2 J y3 v4:Value)(D:AS w c2 [v2] 29)(F:AS w c3 [J,y3] 25)(G:AS w c4 [v4] 26)(L:f c2=0∧f c3=0∧f c4=0)(O:c2≠c3∧c2≠c4∧c3≠c4)(er:Er) :
  CallsD prog 28 [pB c2,pB c3,pB c4].toArray (.panicking (trI 61 er)) w λr m w'=>∃x,r=.returned x∧m=.panicking [{v:=.iface 61 (.agg #[iV er.1,iV er.2.1,iV er.2.2]),recovered:=true}]∧(∃f',CQ (λb=>b=c2∨b=c3∨b=c4) w f w' f'∧AS w' c2 [.slice none 0 0] 29∧AS w' c3 [iV er.1,iV er.2.1] 25∧AS w' c4 [iV er.2.2] 26):=by
 refine D9 (R:=λw'=>∃f',CQ (λb=>b=c2∨b=c3∨b=c4) w f w' f'∧AS w' c2 [.slice none 0 0] 29∧AS w' c3 [iV er.1,iV er.2.1] 25∧AS w' c4 [iV er.2.2] 26) func28 C C C C QV<|(?_:A7 prog _ (FX prog _ (λ_ w'=>∃f',CQ (λb=>b=c2∨b=c3∨b=c4) w f w' f'∧AS w' c2 [.slice none 0 0] 29∧AS w' c3 [iV er.1,iV er.2.1] 25∧AS w' c4 [iV er.2.2] 26) λ_ _=>False) [] ⟨λb=>b=c2∨b=c3∨b=c4,λ_=>False,λ_ _=>True,w,f⟩ [] [] [] (.code _) [] _ [⟨c2,[v2],29,false⟩,⟨c3,[J,y3],25,false⟩,⟨c4,[v4],26,false⟩]) w f (oW K D F G L O);refine Aa 3 [] (λ_=>FJ C C (λw f h=>Ro R9 C)<|Aa 5 [] (λ_=>FJ C C (λw f h=>UJ C qJ)<|Aa 11 [0] (λb1=>y<|λ_=>Dh [0] Aq (rd [0,1,2,3] (.br 4 (.br 5 (.br 6 .fin .fin) .fin) .fin)) C kR<|A9 4 [0,0] (y<|y<|λ_=>Ah C ?_ Aj))));refine Aa 2 [1] (y<|λ_=>Az [0] C<|Ah C ?_ Aj);refine Aa 2 [2] (y<|λ_=>Az [0] C<|Ah C ?_ Aj);exact Aa 2 [3] (y<|λ_=>Az [0] C<|Bx<|Aa 1 [] (λ_=>kQ (λw f h=>DZ C) (λw f h=>⟨f,h.exm,h.blk _ sT,h.blk _ Yp,h.blk _ WU⟩)))
end Go.Proofs.YtgdndhedjlmagaaGreatDoor
namespace Go.SP
open Go.SW Go.RowKit
def Nd.wft:Nd→Prop
 |.nil=>True
 |.cons op _ _ _ _ k r=>(op=41∨(op=43∧k.wfm 2)∨((op=44∨op=45∨op=46)∧k.wfm 3))∧r.wft
def FN:List (lU×T1)→Ty
 | []=>.nil
 |b::l=>b.2.cons (FN l)
theorem Et(b:lU×T1):∀l:List (lU×T1),FN (l++[b])=(FN l).snoc b.2
 | []=>by simp[FN,Ty.snoc,Ty.app,T1.one]
 |c::l=>by
   simp only[List.cons_append,FN,Et b l]
   cases c.2 <;> rfl
def bC:List (lU×lU)→lV
 | []=>[]
 |b::l=>S b.1::S b.2::bC l
theorem bC_app:∀a b:List (lU×lU),bC (a++b)=bC a++bC b
 | [],_=>rfl
 |x::a,b=>by simp only[List.cons_append,bC,bC_app a b]
theorem ZP:∀a:List (lU×lU),(bC a).length=a.length*2
 | []=>rfl
 |x::a=>by simp only[bC,List.length_cons,ZP a];omega
abbrev Wc(l:List (lU×T1)):List (lU×lU):=l.map λb=>(b.1,[])
section
variable{s s1:CS}{e e1:AB}{op ln co nm:Int}{tx:lU}{k r:Nd}{out:List (lU×T1)}{er:Er}
theorem Vu(h:DT s e op ln co tx k=.ok (none,e1,s1)):EA s e (.cons op ln co tx nm k r) out=EA s1 e1 r out:=by rw[EA,h]
theorem IN{b:lU×T1}(h:DT s e op ln co tx k=.ok (some b,e1,s1)):EA s e (.cons op ln co tx nm k r) out=EA s1 e1 r (out++[b]):=by rw[EA,h]
theorem DR(h:DT s e op ln co tx k=.error er):EA s e (.cons op ln co tx nm k r) out=.error er:=by rw[EA,h]
end
structure Rel(Rl:CS→CS→Prop):Prop where
 refl:∀s,Rl s s
 trans:∀{s t u},Rl s t→Rl t u→Rl s u
 fresh:∀s,Rl s (Au s).2
 has:∀{s a b ln co s'},Da s a b ln co=.ok s'→Rl s s'
section
variable{Rl:CS→CS→Prop}(hR:Rel Rl)
include hR
theorem OR:∀(l:List Int)(s:CS),Rl s (AL l s).2
 | [],s=>hR.refl s
 |_::l,s=>hR.trans (hR.fresh s) (OR l _)
variable {e':AB}{s s':CS}{co ln:Int}{n:Nat}{k:Nd}
theorem SS{tx:lU}{k:Nat}{a:Ty}{o:T1}(h:Gk s tx k ln co=.ok (a,o,s')):Rl s s':=by
 unfold Gk at h
 split at h
 · cases h
 · split at h
   · cases h
     exact OR hR _ _
   · cases h
theorem eJ{e:AB}{tx:lU}{t:T1}(h:El s e tx ln co=.ok (t,s')):Rl s s':=by
 unfold El at h
 split at h
 · cases h
 · split at h
   · cases h
   · cases h
     exact OR hR _ _
def Aa4(Rl:CS→CS→Prop)(p:Hq):Prop:=∀{s e op ln co tx nm k t s'},p s e op ln co tx nm k=.ok (t,s')→Rl s s'
def RelP(Rl:CS→CS→Prop)(p:Jq):Prop:=∀{s e op ln co tx nm k t e' s'},p s e op ln co tx nm k=.ok (t,e',s')→Rl s s'
variable{p:Hq}(hp:Aa4 Rl p)
include hp
theorem O1{e:AB}:∀(k:Nd){s s':CS}{l:Ty},CA p e s k=.ok (l,s')→Rl s s'
 |.nil,_,_,_,h=>by cases h;exact hR.refl _
 |.cons op ln co tx nm k r,s,s',l,h=>by
   unfold CA at h
   split at h
   · cases h
   · rename_i D
     split at h
     · cases h
     · rename_i F
       cases h
       exact hR.trans (hp D) (O1 r F)
theorem Tg{e:AB}:∀(k:Nd){s s':CS}{l:Ty},Dt p e s l k=.ok s'→Rl s s'
 |.nil,_,_,_,h=>by cases h;exact hR.refl _
 |.cons op ln co tx nm k r,s,s',l,h=>by
   unfold Dt at h
   split at h
   · cases h
   · rename_i D
     split at h
     · cases h
     · rename_i F
       exact hR.trans (hp D) (hR.trans (hR.has F) (Tg r h))
theorem Xt{e:AB}:∀(k:Nd){s s':CS}{t t':T1},EU p e s t k=.ok (t',s')→Rl s s'
 |.nil,_,_,_,_,h=>by cases h;exact hR.refl _
 |.cons op ln co tx nm k r,s,s',t,t',h=>by
   unfold EU at h
   split at h
   · cases h
   · rename_i D
     split at h
     · cases h
     · rename_i F
       exact hR.trans (hp D) (hR.trans (hR.fresh _) (hR.trans (hR.has F) (Xt r h)))
theorem X1{e:AB}{o l c m:Int}{tx x:lU}{t:T1}(h:EG p s e ln co tx o l c x m k=.ok (t,s')):Rl s s':=by
 unfold EG at h
 split at h
 · cases h
 · rename_i D
   split at h
   · cases h
   · rename_i F
     cases h
     exact hR.trans (hR.fresh _) (hR.trans (hp D) (hR.has F))
omit hp
theorem UF:∀(k:Nd){s:CS}{e:AB},Rl s (CZ s e k).2.2
 |.nil,_,_=>hR.refl _
 |.cons _ _ _ _ _ _ .nil,_,_=>hR.refl _
 |.cons _ _ _ _ _ _ (.cons o l c x m k r),_,_=>hR.trans (hR.fresh _) (UF (.cons o l c x m k r))
variable{q:Jq}(hq:RelP Rl q)
include hq
theorem PT:∀(k:Nd){s s':CS}{e e':AB}{l:Ty},Dx q s e l k=.ok (e',s')→Rl s s'
 |.nil,_,_,_,_,_,h=>by cases h;exact hR.refl _
 |.cons op ln co tx nm k r,s,s',e,e',l,h=>by
   unfold Dx at h
   split at h
   · cases h
   · rename_i D
     split at h
     · cases h
     · rename_i F
       exact hR.trans (hq D) (hR.trans (hR.has F) (PT r h))
theorem PF:∀(k:Nd){s s':CS}{e e':AB}{l:Ty},CU q s e k=.ok (l,e',s')→Rl s s'
 |.nil,_,_,_,_,_,h=>by cases h;exact hR.refl _
 |.cons op ln co tx nm k r,s,s',e,e',l,h=>by
   unfold CU at h
   split at h
   · cases h
   · rename_i D
     split at h
     · cases h
     · rename_i F
       cases h
       exact hR.trans (hq D) (PF r F)
theorem eX{e:AB}{op:Int}{tx:lU}{t:T1}(h:CE q s e op ln co tx k=.ok (t,e',s')):Rl s s':=by
 unfold CE at h
 repeat' (split at h)
 all_goals first|(cases h;first|exact hR.refl _|exact hR.fresh _|exact hR.trans (SS hR (by assumption)) (PT hR hq _ (by assumption))|exact PF hR hq _ (by assumption))|cases h
omit hq
theorem XF:∀n,RelP Rl (BM n)
 |0=>λh=>by cases h
 |n+1=>λh=>by
   unfold BM at h
   split at h
   · cases h
   · rename_i D
     split at h
     · cases h
     · cases h
       exact eX hR (XF n) D
include hp
theorem LP{e:AB}{pt:T1}:∀(k:Nd){s s':CS}{t:Option T1}{u:T1},BY n p e pt s t k=.ok (u,s')→Rl s s'
 |.nil,_,_,_,_,h=>by unfold BY at h;cases h;exact hR.refl _
 |.cons _ _ _ _ _ K r,s,s',t,u,h=>by
   unfold BY at h
   split at h
   · split at h
     · cases h
     · rename_i D
       split at h
       · cases h
       · rename_i F
         split at h
         · cases h
         · rename_i G
           refine hR.trans (XF hR _ D) (hR.trans (hR.has F) (hR.trans (hp G) ?_))
           split at h
           · split at h
             · cases h
             · rename_i J
               exact hR.trans (hR.has J) (LP r h)
           · exact LP r h
   · cases h
     exact hR.refl _
theorem gD{e:AB}{op:Int}{tx:lU}{t:T1}(h:AQ n p s e op ln co tx k=.ok (t,s')):Rl s s':=by
 have tr:=@Rel.trans _ hR;have W:=@Rel.has _ hR;unfold AQ at h
 by_cases Y:(op==1)=true
 · rw[if_pos Y] at h
   cases h;exact hR.refl _
 rw[if_neg Y] at h
 by_cases Z:(op==2)=true
 · rw[if_pos Z] at h
   cases h;exact hR.refl _
 rw[if_neg Z] at h
 by_cases o3:(op==3)=true
 · rw[if_pos o3] at h
   cases h;exact hR.refl _
 rw[if_neg o3] at h
 by_cases o4:(op==4)=true
 · rw[if_pos o4] at h
   cases h;exact hR.refl _
 rw[if_neg o4] at h
 by_cases o5:(op==5)=true
 · rw[if_pos o5] at h
   exact eJ hR h
 rw[if_neg o5] at h
 by_cases o6:(op==6)=true
 · rw[if_pos o6] at h
   split at h
   · cases h
   rename_i D
   split at h
   · cases h
   rename_i F
   cases h
   exact tr (SS hR D) (Tg hR hp _ F)
 rw[if_neg o6] at h
 by_cases o7:(op==7)=true
 · rw[if_pos o7] at h
   split at h
   · cases h
     exact hR.refl _
   simp only at h
   split at h
   · cases h
   rename_i D
   cases h
   exact tr (UF hR _) (hp D)
 rw[if_neg o7] at h
 by_cases o8:(op==8)=true
 · rw[if_pos o8] at h
   split at h
   · cases h
     exact hR.refl _
   split at h
   · cases h
   rename_i D;exact tr (hp D) (Xt hR hp _ h)
 rw[if_neg o8] at h
 by_cases o9:(op==9)=true
 · rw[if_pos o9] at h
   split at h
   · split at h
     · cases h
     rename_i D
     split at h
     · cases h
     exact tr (hp D) (hp h)
   · cases h
     exact hR.refl _
 rw[if_neg o9] at h
 by_cases G:(op==10)=true
 · rw[if_pos G] at h
   split at h
   · split at h
     · cases h
     rename_i D
     split at h
     · cases h
     exact tr (X1 hR hp D) (hp h)
   · cases h
     exact hR.refl _
 rw[if_neg G] at h
 by_cases J:(op==11)=true
 · rw[if_pos J] at h
   split at h
   · split at h
     · cases h
     rename_i D
     split at h
     · cases h
     rename_i F
     split at h
     · cases h
     rename_i h3
     split at h
     · cases h
     rename_i h4
     split at h
     · cases h
     rename_i h5
     cases h
     exact tr (hp D) (tr (W F) (tr (hp h3) (tr (hp h4) (W h5))))
   · cases h
     exact hR.refl _
 rw[if_neg J] at h
 by_cases K:(op==12)=true
 · rw[if_pos K] at h
   split at h
   · cases h
   rename_i D
   cases h
   exact O1 hR hp _ D
 rw[if_neg K] at h
 by_cases L:(op==13)=true
 · rw[if_pos L] at h
   split at h
   · cases h
   rename_i D
   cases h
   exact O1 hR hp _ D
 rw[if_neg L] at h
 by_cases O:(op==14)=true
 · rw[if_pos O] at h
   split at h
   · cases h
     exact hR.refl _
   split at h
   · cases h
   rename_i D;exact tr (hp D) (LP hR hp _ h)
 rw[if_neg O] at h
 by_cases Q:(op==15)=true
 · rw[if_pos Q] at h
   split at h
   · cases h
     exact hR.refl _
   split at h
   · cases h
   rename_i D;exact tr (hp D) (LP hR hp _ h)
 rw[if_neg Q] at h
 by_cases U:(op==16)=true
 · rw[if_pos U] at h
   split at h
   · cases h
     exact hR.refl _
   split at h
   · cases h
   rename_i D
   split at h
   · cases h
   rename_i F
   cases h
   exact tr (hp D) (tr (W F) (hR.fresh _))
 rw[if_neg U] at h
 split at h
 · cases h
   exact hR.refl _
 exact hp h
omit hp
theorem Kz:∀n,Aa4 Rl (AJ n)
 |0=>λh=>by cases h
 |n+1=>λh=>by
   unfold AJ at h
   split at h
   · cases h
   · rename_i D
     split at h
     · cases h
     · cases h
       exact gD hR (Kz n) D
end
def Frm(s s':CS):Prop:=s'.cons=s.cons∧s'.datas=s.datas∧s'.roots=s.roots∧s'.vars=s.vars
variable {s s':CS}{co ln:Int}
theorem Rz{a b:T1}(h:Da s a b ln co=.ok s'):∃m,DY s.sol a b=.ok m∧s'={s with sol:=m}:=by
 unfold Da at h
 split at h
 · cases h
 · cases h
   exact⟨_,by assumption,C⟩
theorem IL:Rel Frm where
 refl _:=⟨C,C,C,C⟩
 trans D F:=⟨F.1.trans D.1,F.2.1.trans D.2.1,F.2.2.1.trans D.2.2.1,F.2.2.2.trans D.2.2.2⟩
 fresh _:=⟨C,C,C,C⟩
 has h:=by obtain⟨m,-,rfl⟩:=Rz h;exact⟨C,C,C,C⟩
section
variable{s s1 s2:CS}{e e1:AB}{op ln co nm o l c m o2 l2 c2 m2:Int}{tx x x2:lU}{kids k r k2 r2:Nd}{t q:T1}{er:Er}
theorem YO(h:(op==41)=true)(hd:HM s ln co tx kids=.ok s1):DT s e op ln co tx kids=.ok (none,e,s1):=by unfold DT;rw[if_pos h,hd]
theorem Wu(h:(op==41)=true)(hd:HM s ln co tx kids=.error er):DT s e op ln co tx kids=.error er:=by unfold DT;rw[if_pos h,hd]
theorem fA(h:(op==44)=true)(D:AJ (k.size+1) s e o l c x m k=.ok (t,s1))(hw:DG s1 e tx t (Br (k.size+1) o k) ln co=.ok e1):DT s e op ln co tx (.cons o l c x m k r)=.ok (some (tx,t),e1,s1):=by
 obtain rfl:=beq_iff_eq.1 h;unfold DT;rw[if_neg (by decide)];simp only;rw[if_neg (by decide),if_pos (by decide),D];simp only;rw[hw]
theorem Yr(h:(op==44)=true)(D:AJ (k.size+1) s e o l c x m k=.error er):DT s e op ln co tx (.cons o l c x m k r)=.error er:=by
 obtain rfl:=beq_iff_eq.1 h;unfold DT;rw[if_neg (by decide)];simp only;rw[if_neg (by decide),if_pos (by decide),D]
theorem Zw(h:(op==44)=true)(D:AJ (k.size+1) s e o l c x m k=.ok (t,s1))(hw:DG s1 e tx t (Br (k.size+1) o k) ln co=.error er):DT s e op ln co tx (.cons o l c x m k r)=.error er:=by
 obtain rfl:=beq_iff_eq.1 h;unfold DT;rw[if_neg (by decide)];simp only;rw[if_neg (by decide),if_pos (by decide),D];simp only;rw[hw]
theorem aL(h:(op==45)=true)(D:EG (AJ (k.size+1)) s e ln co tx o l c x m k=.ok (t,s1))(hw:DG s1 e tx t true ln co=.ok e1):DT s e op ln co tx (.cons o l c x m k r)=.ok (some (tx,t),e1,s1):=by
 obtain rfl:=beq_iff_eq.1 h;unfold DT;rw[if_neg (by decide)];simp only;rw[if_neg (by decide),if_neg (by decide),if_pos (by decide),D];simp only;rw[hw]
theorem Zt(h:(op==45)=true)(D:EG (AJ (k.size+1)) s e ln co tx o l c x m k=.error er):DT s e op ln co tx (.cons o l c x m k r)=.error er:=by
 obtain rfl:=beq_iff_eq.1 h;unfold DT;rw[if_neg (by decide)];simp only;rw[if_neg (by decide),if_neg (by decide),if_pos (by decide),D]
theorem ZA(h:(op==45)=true)(D:EG (AJ (k.size+1)) s e ln co tx o l c x m k=.ok (t,s1))(hw:DG s1 e tx t true ln co=.error er):DT s e op ln co tx (.cons o l c x m k r)=.error er:=by
 obtain rfl:=beq_iff_eq.1 h;unfold DT;rw[if_neg (by decide)];simp only;rw[if_neg (by decide),if_neg (by decide),if_pos (by decide),D];simp only;rw[hw]
theorem mE(h:(op==46)=true)(D:AJ (k.size+1) s e o l c x m k=.ok (t,s1)):DT s e op ln co tx (.cons o l c x m k r)=.ok (some ([],t),e,s1):=by
 obtain rfl:=beq_iff_eq.1 h;unfold DT;rw[if_neg (by decide)];simp only;rw[if_neg (by decide),if_neg (by decide),if_neg (by decide),D]
theorem fT(h:(op==46)=true)(D:AJ (k.size+1) s e o l c x m k=.error er):DT s e op ln co tx (.cons o l c x m k r)=.error er:=by
 obtain rfl:=beq_iff_eq.1 h;unfold DT;rw[if_neg (by decide)];simp only;rw[if_neg (by decide),if_neg (by decide),if_neg (by decide),D]
theorem OM(h:Dd s.datas [] o l c x k=.ok q):G3 s.datas [] (.cons o l c x m k .nil)=.ok q.one:=by
 rw[Kv,h];simp only[G3];cases q <;> rfl
theorem WG(h:(op==43)=true)(D:s.roots.contains tx=true):DT s e op ln co tx (.cons o l c x m k r)=.error (ln,co,11):=by
 obtain rfl:=beq_iff_eq.1 h;unfold DT;rw[if_neg (by decide)];simp only;rw[if_pos (by decide),if_pos D]
theorem Wl(h:(op==43)=true)(D:s.roots.contains tx=false)(F:Dd s.datas [] o l c x k=.error er):DT s e op ln co tx (.cons o l c x m k r)=.error er:=by
 obtain rfl:=beq_iff_eq.1 h;unfold DT;rw[if_neg (by decide)];simp only;rw[if_pos (by decide),if_neg (by rw[D];decide),Ju F]
theorem Vm(h:(op==43)=true)(D:s.roots.contains tx=false)(F:Dd s.datas [] o l c x k=.ok q)(G:AJ (k2.size+1) {s with roots:=tx::s.roots} e o2 l2 c2 x2 m2 k2=.error er):DT s e op ln co tx (.cons o l c x m k (.cons o2 l2 c2 x2 m2 k2 r2))=.error er:=by
 obtain rfl:=beq_iff_eq.1 h;unfold DT;rw[if_neg (by decide)];simp only;rw[if_pos (by decide),if_neg (by rw[D];decide),OM F];simp only;rw[G]
theorem Vd(h:(op==43)=true)(D:s.roots.contains tx=false)(F:Dd s.datas [] o l c x k=.ok q)(G:AJ (k2.size+1) {s with roots:=tx::s.roots} e o2 l2 c2 x2 m2 k2=.ok (t,s1))(J:Da s1 q t ln co=.error er):DT s e op ln co tx (.cons o l c x m k (.cons o2 l2 c2 x2 m2 k2 r2))=.error er:=by
 obtain rfl:=beq_iff_eq.1 h;unfold DT;rw[if_neg (by decide)];simp only;rw[if_pos (by decide),if_neg (by rw[D];decide),OM F];simp only;rw[G];simp only;rw[show q.one.hd=q by cases q <;> rfl,J]
theorem YI(h:(op==43)=true)(D:s.roots.contains tx=false)(F:Dd s.datas [] o l c x k=.ok q)(G:AJ (k2.size+1) {s with roots:=tx::s.roots} e o2 l2 c2 x2 m2 k2=.ok (t,s1))(J:Da s1 q t ln co=.ok s2) :
   DT s e op ln co tx (.cons o l c x m k (.cons o2 l2 c2 x2 m2 k2 r2))=.ok (some (tx,.con Dv q.one),⟨tx,.con Dv q.one,[]⟩::e,s2):=by
 obtain rfl:=beq_iff_eq.1 h;unfold DT;rw[if_neg (by decide)];simp only;rw[if_pos (by decide),if_neg (by rw[D];decide),OM F];simp only;rw[G];simp only;rw[show q.one.hd=q by cases q <;> rfl,J]
end
def Nu(w:wO)(f:Fq)(l:List (lU×lU))(a:oA)(c:Nat):Prop:=l.length≤c∧(l=[]∨∃b off,a=some ⟨b,off,none⟩∧Cs w f b off (bC l))
variable {X:Cx}{f:Fq}{Fs:List (wO→Fq→Prop)}{B:List FB}{H:List HB}{a:oA}{T:tI}{w:wO}
theorem Nu.mono{l:List (lU×lU)}{c:Nat}:G0 (λw f=>Nu w f l a c):=λ_ _ _ _ h D=>⟨h.1,h.2.imp id λ⟨b,off,F,G⟩=>⟨b,off,F,G.mono D⟩⟩
def Zc(nds:Nd)(w:wO)(f:Fq)(v:Value)(w':wO):Prop:=∃f',CQ (λ_=>False) w f w' f' ∧
 match CY nds with
 |.error er=>v=.tuple #[.slice none 0 0,.agg #[.int .i64 er.1,.int .i64 er.2.1],.int .i64 er.2.2]
 |.ok h=>∃a c,v=.tuple #[.slice a h.length c,.agg #[.int .i64 0,.int .i64 0],.int .i64 0]∧Nu w' f' h a c
def RE(l:List (lU×lU))(r:List (lU×T1)):List (lU×lU):=l++Wc r
theorem Zq{s:CS}{n:lU}{t f:T1}{r:List (lU×T1)}{d:List (lU×lU)}(h:Ds s t 0 0=.ok f) :
   (match Jn s ((n,t)::r) with|.error x=>.error x|.ok l=>.ok (d++l):RI (List (lU×lU)))=(match Jn s r with|.error x=>.error x|.ok l=>.ok ((d++[(n,De f)])++l)):=by
 rw[Jn,h];simp only
 cases Jn s r with
 |error x=>rfl
 |ok z=>simp
theorem Vv{s:CS}{r:List (lU×T1)}:Jn s r=(match Jn s r with|.error x=>.error x|.ok l=>.ok ([]++l)):=by
 cases Jn s r <;> rfl
theorem fC{s:CS}{n:lU}{t:T1}{r:List (lU×T1)}{er:Er}(h:Ds s t 0 0=.error er):Jn s ((n,t)::r)=.error er:=by rw[Jn,h]
theorem Yq{d:List (lU×lU)}{n y:lU}{t:T1}{r:List (lU×T1)}:EF (bC (RE d ((n,t)::r))) (d.length*2+1) [S y]=bC (RE (d++[(n,y)]) r):=by
 unfold RE;rw[bC_app,bC_app,bC_app];have h:=ZP d;rw[← h];generalize bC d=D;simp[EF,Wc,bC,List.set_append_right]
theorem Uq{a:lU}:∀l:List lU,(FF (l.map λk=>(k,Value.bool true)) a).getD (.bool false)=.bool (l.contains a)
 | []=>rfl
 |b::l=>by
   simp only[List.map_cons,FF,List.contains_cons]
   by_cases h:a=b
   · subst h;simp
   · rw[show (a==b)=false from beq_eq_false_iff_ne.2 h]
     simpa using Uq l
theorem DQ.addRoot{s:CS}(h:DQ s){a:lU}(F:s.roots.contains a=false):DQ {s with roots:=a::s.roots} :=
 {h with
   dr:=⟨by
     have:∀l:List lU,l.contains a=false→FF (l.map λk=>(k,Value.bool true)) a=none:=by
       intro l
       induction l with
       |nil=>intro _;rfl
       |cons b l G =>
         intro D;rw[List.contains_cons,Bool.or_eq_false_iff] at D;simp only[List.map_cons,FF];rw[D.1];simpa using G D.2
     exact this _ F,h.dr⟩}
theorem Ga{nds:Nd}{er:Er}(h:EA ES B5 nds []=.error er):CY nds=.error er:=by rw[CY,h]
theorem wC{nds:Nd}{out:List (lU×T1)}{s:CS}(h:EA ES B5 nds []=.ok (out,s)):CY nds=Jn s out:=by rw[CY,h]
theorem vJ{R:List RB}{c:Nat}{l:List (lU×lU)}(F:AU X w f H (⟨T,2,a,c,l.length,bC l⟩::R) B Fs):∃f',AU X w f' H R B Fs∧Nu w f' l a c:=by
 have K:=F.row _ (.head _);rcases K.2 with ⟨_,_,hz⟩|⟨b,q,J,L,G,_,O,Q⟩
 · simp only at hz
   exact⟨f,F.less (List.Sublist.refl _) (List.sublist_cons_self _ _) (λ_ h=>h) (λ_ h=>h),oM,.inl (by cases l with|nil=>rfl|cons _ _=>simp at hz)⟩
 · simp only at J
   subst J;obtain⟨f',D⟩:=F.done (i:=0) C C;refine⟨f',D.less (List.Sublist.refl _) (List.Sublist.refl _) (λ_ h=>.tail _ h) (λ_ h=>h),G,.inr ⟨b,0,C,D.fro _ (.head _)⟩⟩
end Go.SP
namespace Go.Proofs.YtgdndhedjlmagaaGreatDoor
open Go.SW Go.SP Go.RowKit Go.Proofs.Tryz
theorem cA:∀i,i≤8→DQ (⟨[],0,ZG i,[],[],-1⟩:CS)
 |0,_=>⟨tQ,λ_ _ h=>(by cases h),tQ,tQ,tQ,Int.le_refl _⟩
 |i+1,h=>by
  obtain⟨⟨nm,G,J,K⟩,D⟩:∃v,Iz[i]?=some v:=⟨_,List.getElem?_eq_getElem (l:=Iz) (by have:Iz.length=8:=rfl;omega)⟩;have F:=TD D;rw[Od D];exact (cA i oM).addCons (O5 i oM _ D) ⟨by rw[Lr];dsimp only;omega,NP _,Dj (T6 D),Nat.zero_le _⟩
theorem wfc0:DQ ES:=cA 8 (Nat.le_refl _)
theorem yE:Gi B5:=by
 rw[← UG];intro b h;unfold Hj at h;rw[List.take_length,List.mem_reverse] at h;obtain⟨p,D,rfl⟩:=List.mem_map.1 h;exact⟨J6 (GH (B7 _)) (Oz p D),by dsimp only[RC];decide⟩
theorem Y5(w:wO)(f:Fq)(F:Vl w f)(tx:lU)(t:T1)(b:Nat)(G:Ai w f t.one (some ⟨b,0,none⟩) 1) :
  BF prog 35 #[S tx,.slice (some ⟨b,0,none⟩) 1 1] w (Ce (α:=oA×Nat) (λx=>tV (.con tx t.one) x.1 x.2) (λ_=>True) (λx=>[λw f=>Ai w f t.one x.1 x.2]) w f):=by
 have D:t.one.len=1:=by cases t <;> rfl
 have h:=Dc w f F tx t.one (some ⟨b,0,none⟩) 1 (by rw[D];decide) G;rwa[D] at h
variable {σ:Bp}{f f':Fq}{a:oA}{v2 v4 x3 y3:Value}{w w':wO}
theorem Nl{nds:Nd}{b2 b3 b4:Nat}(L:b2≠b3∧b2≠b4∧b3≠b4){fn:Func}(O:fn.results=#[.cell 2 29,.cell 3 25,.cell 4 26])(Q:σ 2=some (pB b2))(U:σ 3=some (pB b3))(W:σ 4=some (pB b4)){er:Er}(hm:CY nds=.error er)(G:CQ (λ_=>False) w f w' f')
  (k2:AS w' b2 [v2] 29∧f' b2=0∧(true=true→w.heap.size≤b2)) (k3:AS w' b3 [x3,y3] 25∧f' b3=0∧(true=true→w.heap.size≤b3)) (k4:AS w' b4 [v4] 26∧f' b4=0∧(true=true→w.heap.size≤b4))
  (tmps:Array Value) (F:∀t,t∈[2,3,4]→∀v,σ t=some v→tmps.getD t undef=v):Leaves prog fn tmps (λe w'=>∃v,e=.returned v∧Zc nds w f v w') [{target:=.fn (.func 28) ([pB b2,pB b3,pB b4]:lV).toArray,args:=#[]}] (.panicking (trI 61 er)) w':=by
 refine FR (by simp) aZ (VW w' f' G.val b2 b3 b4 v2 x3 y3 v4 k2.1 k3.1 k4.1 ⟨k2.2.1,k3.2.1,k4.2.1⟩ L er) λwz hz=>?_;rw[KX];obtain⟨f3,Y,z2,z3,z4⟩:=hz;refine Ch (σ:=AH (E2 2 (pB b2) 3 (pB b3)) 4 (pB b4)) (λt v D=>?_) (EB O (B1 C dI z2 C) (Ae C Ho z3 C) (B1 C Ix z4 C)) ⟨_,C,f3,CQ.trans0 G Y (λb Z=>?_),by rw[hm]⟩
 ·
  by_cases e4:t=4
  · subst e4;exact F 4 (by simp) v (W.trans D)
  by_cases J:t=3
  · subst J;exact F 3 (by simp) v (U.trans D)
  by_cases K:t=2
  · subst K;exact F 2 (by simp) v (Q.trans D)
  have n4:Nat.beq t 4=false:=by cases h:Nat.beq t 4 with|false=>rfl|true=>exact absurd (Nat.eq_of_beq_eq_true h) e4
  have n3:Nat.beq t 3=false:=by cases h:Nat.beq t 3 with|false=>rfl|true=>exact absurd (Nat.eq_of_beq_eq_true h) J
  have n2:Nat.beq t 2=false:=by cases h:Nat.beq t 2 with|false=>rfl|true=>exact absurd (Nat.eq_of_beq_eq_true h) K
  simp[AH,Go.SW.e0,n2,n3,n4] at D
 ·
  rcases Z with rfl|rfl|rfl
  · exact k2.2.2 C
  · exact k3.2.2 C
  · exact k4.2.2 C
theorem zD{nds:Nd}{b2 b3 b4:Nat}{fn:Func}(J:fn.results=#[.cell 2 29,.cell 3 25,.cell 4 26])(K:σ 2=some (pB b2))(L:σ 3=some (pB b3))(O:σ 4=some (pB b4)){D:List (lU×lU)}(hm:CY nds=.ok D)(F:CQ (λ_=>False) w f w' f'){c:Nat}(Q:Nu w' f' D a c)
  (k2:AS w' b2 [.slice a D.length c] 29) (k3:AS w' b3 [iV 0,iV 0] 25) (k4:AS w' b4 [iV 0] 26)
  (tmps:Array Value) (U:∀t v,σ t=some v→tmps.getD t undef=v):Leaves prog fn tmps (λe w'=>∃v,e=.returned v∧Zc nds w f v w') [{target:=.fn (.func 28) ([pB b2,pB b3,pB b4]:lV).toArray,args:=#[]}] .returning w':=by
 refine FR (by simp) aZ (TG w' b2 b3 b4) λY hz=>?_;have G:=CQ.of_ext hz F.val;refine Ch U (EB J (B1 K dI (k2.ext hz) C) (Ae L Ho (k3.ext hz) C) (B1 O Ix (k4.ext hz) C)) ⟨_,C,f',CQ.trans0 F G (λb W=>W.elim),?_⟩;rw[hm];exact⟨a,c,C,Nu.mono _ _ _ _ Q (G.fle F.val (λ_ h=>h.elim))⟩
set_option maxHeartbeats 2000000 in
theorem W9(w:wO)(f:Fq)(hv:Vl w f)(hG:FD w f)(nds:Nd)(na:oA)(nc:Nat)(hwt:nds.wft)(hsz:nds.size≤200000)(htb:nds.txb)(hN:Ba w f nds na nc) :
  BF prog 12 #[.slice na nds.len nc] w (Zc nds w f):=by
 have hkl0:=Nd.len_le nds;refine qO (K:=[2,3,4]) (X:=X0 w f) (H:=[]) (R:=[]) (B:=[]) (Fs:=[λw f=>Ba w f nds na nc,λw f=>FD w f]) (f:=f) func12 C C C (CC hv ⟨hN,hG,tQ⟩ ⟨Ba.mono,FD.mono,tQ⟩)<|Aa 8 [] (λb1=>λb2=>λb3=>λ_=>KH (p:=b1≠b2∧b1≠b3∧b2≠b3) (λw f D=>by have L:=D.nd;simp[CX] at L;exact⟨λe=>L.2 e.symm,λe=>L.1.2 e.symm,λe=>L.1.1 e.symm⟩) λhn=>Aa 1 [] (λ_=>FJ C C (λw f D=>Vn C)<|mdf C C<|Aa 4 [] (λ_=>mG (XX:=λ_ _=>False) C C (eC rZ C C) (λw f D=>(UL w f D.vl D.f1).retP) (λ_=>Aw.stab) (λ_=>⟨AN.mono,tQ⟩) (λ_ _ _ _ _ h=>h.elim) ?_)));rintro⟨A,ea⟩ hA;dsimp only at hA ⊢;refine Aa 21 [] (λ_=>So 34 2<|So 68 4 ?_);refine HE (α:=Nat×Nd×List (lU×T1)×lV×oA×Nat×oA×Nat×AB×oA×CS) (λx=>x.2.1.len) (λx=>x.1+x.2.1.len=nds.len∧EA ES B5 nds []=EA x.2.2.2.2.2.2.2.2.2.2 x.2.2.2.2.2.2.2.2.1 x.2.1 x.2.2.1∧x.2.2.1.length≤x.1∧(FN x.2.2.1).bnd∧Gi x.2.2.2.2.2.2.2.2.1∧x.2.1.wft∧x.2.1.txb∧DQ x.2.2.2.2.2.2.2.2.2.2∧x.2.1.size≤nds.size∧x.2.2.2.2.2.2.2.2.2.2.fresh+200002*x.2.1.size≤200002*nds.size∧x.2.1.size-(nds.size:Int)-1≤x.2.2.2.2.2.2.2.2.2.2.vars∧x.2.2.2.2.2.2.2.2.2.2.vars≤0) (λx=>(E9 2 (pB b1) 3 (pB b2) 4 (pB b3) 5 (pB A.cb) 6 (.pointer x.2.2.2.2.2.2.2.2.2.1) 7 (.slice x.2.2.2.2.1 x.2.2.1.length x.2.2.2.2.2.1) 19 (.slice na nds.len nc) 20 (iV (nds.len:Int)) 21 (iV (x.1:Int)))) (λx=>⟨λ_=>False,BD A,Aw 76 140 A x.2.2.2.2.2.2.2.2.2.2,w,f⟩) (λx=>[⟨b3,[iV 0],26,true⟩,⟨b2,[iV 0,iV 0],25,true⟩,⟨b1,[.slice x.2.2.2.2.2.2.1 x.2.2.1.length x.2.2.2.2.2.2.2.1],29,true⟩]) (λx=>[⟨68,4,x.2.2.2.2.1,x.2.2.2.2.2.1,x.2.2.1.length,x.2.2.2.1⟩,⟨34,2,x.2.2.2.2.2.2.1,x.2.2.2.2.2.2.2.1,x.2.2.1.length,bC (Wc x.2.2.1)⟩]) (λx=>[]) (λx=>[λw f=>B2 w f na x.1 x.2.1,λw f=>Bn w f (FN x.2.2.1) x.2.2.2.1,λw f=>AN w f x.2.2.2.2.2.2.2.2.1 x.2.2.2.2.2.2.2.2.2.1,λw f=>FD w f]) (0,nds,[],[],none,0,none,0,B5,ea,ES) ⟨Nat.zero_add _,C,Nat.le_refl _,tQ,yE,hwt,htb,wfc0,Nat.le_refl _,by dsimp only[ES];omega,by dsimp only[ES];omega,(by decide:(-1:Int)≤0)⟩ lE (λw f D=>D.more (B':=[]) (F':=[λw f=>B2 w f na 0 nds,λw f=>Bn w f .nil []]) nE (AM.mem ⟨Ba.at D.f1,C,tQ⟩) (A2.mem ⟨B2.mono,Bn.mono,tQ⟩) |>.less sR sR nE (mR [0,1,2,4])) ?_;rintro⟨i,r,out,txs,ta,tc,oa,oc,e,ea,s⟩ ⟨hi,U,hol,htyb,heB,W,htx,hw,hrs,hfr,hv1,hv2⟩;dsimp only at hi U hol htyb heB W htx hw hrs hfr hv1 hv2 ⊢;refine Aa 6 [] (λ_=>Bb 22 C C (λh1=>?_) (λh1=>?_));refine Aa 6 [] (λ_=>?_);have hil:i<nds.len:=by have:=dT h1;omega
 obtain⟨op2,ln2,co2,F,nm2,k2,r,rfl⟩:=Nd.cases1 r oM;have hi2:i+(r.len+1)=nds.len:=hi;obtain⟨htx2,hkx2,hrx2⟩:=htx;have hrs2:k2.size+r.size+1≤nds.size:=hrs;have hfr2:s.fresh+200002*((k2.size+r.size+1:Nat):Int)≤200002*nds.size:=hfr;have hv3:((k2.size+r.size+1:Nat):Int)-nds.size-1≤s.vars:=hv1;have hkl:=Nd.len_le k2;have hfr0:=hw.fr;refine Kw 0 C ?_;rintro⟨eb,eo,ka,kc⟩ rfl;refine Aa 26 [100,0,0,1] (aI oM<|y2<|λb4=>y<|λb5=>y<|λ_=>Bb 27 C C (λh2=>?_) (λh2=>?_));refine Aa 5 [1] (y<|λ_=>ZK C C (eC qZ C C) (λ_ h=>h) (λw f D=>Zl w f D.vl A hA s D.res D.mz hw D.f5 op2 ln2 co2 nm2 F k2 ka kc oM htx2 hkx2 D.f0 oM hv2) (λ_=>Aw.stab) (λ_=>trivial) (λer w2 f2 he hE J=>Nl hn C C C C (Ga (U.trans (DR (Wu h2 he)))) hE (J _ ZZ) (J _ WU) (J _ Yp)) ?_);rintro s5 ⟨hda,hw5,hfr5,hvv5,hvw5⟩;dsimp only at hda hw5 hfr5 hvv5 hvw5 ⊢;exact Aa 11 [] (aI ⟨oM,oM⟩<|λ_=>DW ((i+1,r,out,txs,ta,tc,oa,oc,e,ea,s5)) (show r.len<r.len+1 from Nat.lt_succ_self _) ⟨show i+1+r.len=_ by omega,U.trans (Vu (YO h2 hda)),show out.length≤i+1 by omega,htyb,heB,W.2,hrx2,hw5,show r.size≤_ by omega,show s5.fresh+200002*(r.size:Int)≤_ by omega,show (r.size:Int)-nds.size-1≤s5.vars by omega,show s5.vars≤0 by omega⟩ lE (λw f D=>⟨_,D.less (sD (sD (sK (sK (sK sZ))))) sR nE (mR [1,3,4,5])⟩));refine Aa 7 [] (λ_=>Bb 32 C C (λh3=>?_) (λh3=>?_));refine Aa 2 [] (λ_=>?_);have hwk:k2.wfm 2:=by rcases W.1 with L|⟨L,h8⟩|⟨L,h8⟩ <;> first|exact h8|(exfalso;have:=beq_iff_eq.1 h3;omega)
 obtain⟨op3,ln3,co3,tx3,nm3,k3,r3,G⟩:=Bt hwk dC;have hwk2:r3.wfm 3:=by have L:=hwk;rw[G] at L;exact L
 obtain⟨op4,ln4,co4,tx4,nm4,k4,r4,rfl⟩:=Bt hwk2 dC;rw[Y7] at hwk2;have hks2:(Nd.cons op4 ln4 co4 tx4 nm4 k4 r4).size=k4.size+r4.size+1:=rfl;have hkl3:(Nd.cons op4 ln4 co4 tx4 nm4 k4 r4).len=r4.len+1:=rfl;have hkx3:tx3.length≤100000∧k3.txb:=by have L:=hkx2;rw[G] at L;exact⟨L.1,L.2.1⟩
 have hks:k2.size=k3.size+(Nd.cons op4 ln4 co4 tx4 nm4 k4 r4).size+1:=by rw[G];rfl
 have hkl2:k2.len=(Nd.cons op4 ln4 co4 tx4 nm4 k4 r4).len+1:=by rw[G];rfl
 refine aY 0 C G<|Kw 0 C ?_;rintro⟨eb3,eo3,ka3,kc3⟩ rfl;refine Kw 1 C ?_;rintro⟨eb4,eo4,ka4,kc4⟩ h44;obtain⟨rfl,rfl⟩:eb3=eb4∧eo3=eo4:=by cases h44;exact⟨C,C⟩
 refine Z0 [2,3,4] (λw=>AS w A.cb [pB A.sb,.map (some A.km),.map (some A.dm),.map (some A.rm),iV s.vars] 76∧Cz CJ w A.rm (s.roots.map λk=>(k,.bool true))) (λw f h _=>⟨h.blk,h.roots⟩) [0,1,2,3,4] Aq (rd [0,1,2,3,4,5,6,7,8,9] (.br 10 .fin .fin)) C kR kR kR C Fh<|A9 3 [] (λ_=>HX C C C (λw hK=>Am C pK hK.2.2.1 C)<|A9 2 [1] (y<|λ_=>HX C C C (λw hK=>Ow (K:=CJ) (a:=F) C C WT HG kH hK.2.2.2 hw.dr (Uq s.roots))<|A9 3 [1] (y<|λ_=>Ah C ?_ Aj)));refine ZK (α:=Unit) (val:=λ_=>.tuple #[]) (q:=λ_=>(!s.roots.contains F)=true) (I':=λ_=>Aw 76 140 A s) (F':=λ_=>[]) (pe:=λer=>(!s.roots.contains F)=false∧er=(ln2,co2,11)) (M:=λ_=>False) (T:=61) C C (eC Fe C C) (λ_ h=>h.elim) (λw f D=>(C9 w f D.vl (!s.roots.contains F) ln2 co2).mono (λ_ _ ⟨x,f2,h1,h2,h3,h4⟩=>⟨x,f2,h1,h2,h3.mono (λ_ h=>h.elim),(D.call0 h3).res,h4⟩) λ_ _ h=>h) (λ_=>Aw.stab) (λ_=>trivial) (λer w2 f2 he hE J=>Nl hn C C C C (Ga (U.trans (DR (by obtain⟨L,rfl⟩:=he;rw[G];exact WG h3 (Gt L))))) hE (J _ ZZ) (J _ WU) (J _ Yp)) ?_;rintro⟨⟩ hnd;replace hnd:s.roots.contains F=false:=FM hnd;refine Aa 1 [] (λ_=>Bl [0,1,2,3,4] (λw f h _=>⟨h.blk,h.roots⟩) C (λ_ h=>h)<|Bx<|Aa 2 [] (λ_=>Z0 [2,3,4] (λw=>AS w A.cb [pB A.sb,.map (some A.km),.map (some A.dm),.map (some A.rm),iV s.vars] 76) (λw f h _=>h.blk) [0,1,2,3,4] Aq (rd [0,1,2,3,4,5] (.br 6 .fin .fin)) C kR kR kR C Fh<|A9 3 [] (λ_=>HX C C C (λw hK=>Am C pK hK.2.2 C)<|A9 2 [1] (y<|λ_=>Ah C ?_ Aj))));refine yS (a:=F) hA hw C C C C WT HG hnd ?_;have hwr:=hw.addRoot hnd;refine Aa 1 [] (λ_=>Bl [0,1,2,3,4] (λw f h _=>h.blk) C (λ_ h=>h)<|Bx<|Aa 8 [1,101,0] (y<|aI oM<|y2<|λ_=>ZK (α:=T1×oA×Nat) (val:=λx=>tV x.1 x.2.1 x.2.2) (q:=λx=>Dd s.datas [] op3 ln3 co3 tx3 k3=.ok x.1∧x.1.bnd) (I':=λ_=>Aw 76 140 A ({s with roots:=F::s.roots}:CS)) (F':=λx=>[λw f=>Ai w f x.1.kids x.2.1 x.2.2]) (pe:=λer=>Dd s.datas [] op3 ln3 co3 tx3 k3=.error er) (M:=λ_=>False) (T:=61) C C (eC Pa C C) (λ_ h=>h.elim) (λw f D=>(L7 (k3.size+1) w f D.vl A ({s with roots:=F::s.roots}:CS) D.res hwr D.f10 op3 ln3 co3 nm3 tx3 k3 ka3 kc3 (.map none) [] (Nat.lt_succ_self _) oM hkx3.1 hkx3.2 (.inl ⟨C,C⟩) D.f2).mono (λ_ _ ⟨x,f2,h1,h2,h3,h4⟩=>⟨x,f2,h1,h2,h3.mono (λ_ h=>h.elim),(D.call0 h3).res,h4⟩) λ_ _ h=>h) (λ_=>Aw.stab) (λ_=>⟨Ai.mono,tQ⟩) (λer w2 f2 he hE J=>Nl hn C C C C (Ga (U.trans (DR (by rw[G];exact Wl h3 hnd he)))) hE (J _ ZZ) (J _ WU) (J _ Yp)) ?_));rintro⟨q5,qa,qc⟩ ⟨hp5,hqb⟩;dsimp only at hp5 hqb ⊢;refine Aa 5 [0] (λb6=>y<|λ_=>Z0 [2,3,4] (λ_=>True) Fy [0,1,2,3,4,5] Aq (rd [0,1,2,3,4,5,6,7,9,10] (.br 8 (.br 11 .fin .fin) .fin)) C kR kR kR C Fh<|A9 10 [0,2,100,0,2] (y<|y<|aI oM<|y2<|y<|λ_=>Ah C ?_ Aj))
 refine ZK C C (eC Db C C) (λ_ h=>h) (λw f D=>JH (k4.size+1) w f D.vl A hA ({s with roots:=F::s.roots}:CS) D.res D.mz hwr op4 ln4 co4 nm4 tx4 k4 ka4 kc4 e ea (Nat.lt_succ_self _) oM hwk2 D.f1 heB D.f10 (by first|omega|(dsimp only;omega))) (λ_=>Aw.stab) (λ_=>⟨Ai.mono,tQ⟩) (λer w2 f2 he hE J=>Nl hn C C C C (Ga (U.trans (DR (by rw[G];exact Vm h3 hnd hp5 he)))) hE (J _ om5) (J _ ZZ) (J _ WU)) ?_;rintro⟨⟨t6,Y,Z⟩,s6⟩ ⟨Q,O,hw6,hf6⟩;dsimp only at Q O hw6 hf6 ⊢;have hfm6:=Kz IL _ Q;have hvv6:s6.vars=s.vars:=hfm6.2.2.2;refine Aa 1 [] (λ_=>Az [0,1,2,3,4,5] C<|Ah C ?_ Aj);refine ZK C C (eC G2 C C) (λ_ h=>h) (λw f D=>Dn w f D.vl A hA s6 D.res D.mz hw6 q5 t6 qa qc Y Z hqb O D.f1 D.f0 ln2 co2) (λ_=>Aw.stab) (λ_=>trivial) (λer w2 f2 he hE J=>Nl hn C C C C (Ga (U.trans (DR (by rw[G];exact Vd h3 hnd hp5 Q he)))) hE (J _ om5) (J _ ZZ) (J _ WU)) ?_;rintro s7 ⟨hh7,hw7,hf7⟩;have hvv7:s7.vars=s.vars:=(IL.has hh7).2.2.2.trans hvv6;refine Aa 1 [] (λ_=>Az [0,1,2,3,4,5] C<|Bx<|Aa 5 [0] (y<|λb7=>λ_=>Dg 0 C C<|BA (α:=oA×Nat) C C (eC B4 C C) (λw f D=>Y5 w f D.vl Dv q5 b7 (Dy (l:=[(q5,qa,qc)]) ⟨D.f1,tQ⟩ D.b0)) (λ_=>⟨Ai.mono,tQ⟩) ?_));rintro⟨ua,uc⟩ -;refine Aa 11 [1,2,1,2] (y<|y<|y<|y<|λ_=>?_);have hub:(T1.con Dv q5.one).bnd:=D4 dC (by rw[T1.one,T1.len_cons];simp only[Ty.len];omega) (GH hqb);refine ZK C C (eC II C C) (λ_ h=>h) (λw f D=>Ez w f D.vl A hA s7 D.res D.mz hw7 e ea heB D.f12 F (T1.con Dv q5.one) ua uc hub D.f0 false ln2 co2) (λ_=>Aw.stab) (λ_=>⟨AN.mono,tQ⟩) (λer w2 f2 he hE J=>Nl hn C C C C (by cases he) hE (J _ om5) (J _ ZZ) (J _ WU)) ?_;rintro⟨e7,ea7⟩ ⟨he7,heB7⟩;dsimp only at he7 heB7 ⊢;have hee:e7=⟨F,.con Dv q5.one,[]⟩::e:=by cases he7;rfl
 subst hee;refine Aa 11 [5,2] (y<|y<|λb8=>λ_=>DI 1 0 C C X2 C C C C C C C C (λ_ _=>C) oM oM λoa2 oc2=>Aa 7 [6,2] (y<|y<|λb9=>λ_=>DI 0 0 C C Dq C C C C C C C C (λ_ _=>C) oM oM λta2 tc2=>Aa 8 [] (aI ⟨oM,oM⟩<|λ_=>?_)));exact DW ((i+1,r,(out++[(F,(T1.con Dv q5.one))]),txs++tC (T1.con Dv q5.one) ua uc,ta2,tc2,oa2,oc2,(⟨F,.con Dv q5.one,[]⟩::e),ea7,s7)) (show r.len<r.len+1 from Nat.lt_succ_self _) ⟨show i+1+r.len=_ by omega,U.trans (IN (by rw[G];exact YI h3 hnd hp5 Q hh7)),show (out++[(F,(T1.con Dv q5.one))]).length≤i+1 by rw[List.length_append];simp;omega,show (FN (out++[(F,(T1.con Dv q5.one))])).bnd by rw[Et];exact Ty.bnd_snoc htyb hub,heB7,W.2,hrx2,hw7,show r.size≤_ by omega,show s7.fresh+200002*(r.size:Int)≤_ by omega,show (r.size:Int)-nds.size-1≤s7.vars by omega,show s7.vars≤0 by omega⟩ (qC C C C C C (Eq.trans (b:=some (Value.slice ta2 (out.length+1) tc2)) C (by dsimp only;rw[List.length_append];rfl)) C C C) (λw f D=>⟨_,by have hM9:=(D.more (B':=[]) (F':=[λw f=>Bn w f (FN (out++[(F,(T1.con Dv q5.one))])) (txs++tC (T1.con Dv q5.one) ua uc)]) nE (AM.mem ⟨by rw[Et];exact Bn.snoc D.f1 D.f12,tQ⟩) (A2.mem ⟨Bn.mono,tQ⟩)).less (sD (sD (sD (sD (sD (sK (sK (sK sZ)))))))) sR (B':=[]) nE (F':=[λw f=>B2 w f (some ⟨eb,eo,none⟩) (i+1) r,λw f=>Bn w f (FN (out++[(F,(T1.con Dv q5.one))])) (txs++tC (T1.con Dv q5.one) ua uc),λw f=>AN w f (⟨F,.con Dv q5.one,[]⟩::e) ea7,λw f=>FD w f]) (mR [11,0,1,15]);dsimp only;rw[show (out++[(F,(T1.con Dv q5.one))]).length=out.length+1 by rw[List.length_append];rfl,show bC (Wc (out++[(F,(T1.con Dv q5.one))]))=bC (Wc out)++[S F,S []] by rw[Wc,List.map_append,SP.bC_app];rfl];exact hM9⟩);refine Aa 7 [] (λ_=>Bb 80 C C (λh4=>?_) (λh4=>?_));refine Aa 2 [] (λ_=>?_);have hwk:k2.wfm 3:=by rcases W.1 with L|⟨L,h8⟩|⟨L,h8⟩ <;> first|exact h8|(exfalso;have:=beq_iff_eq.1 h4;omega)
 obtain⟨op3,ln3,co3,tx3,nm3,k3,r3,G⟩:=Bt hwk dC;have hwk1:FK op3 k3:=by have L:=hwk;rw[G] at L;exact L
 have hks:k2.size=k3.size+r3.size+1:=by rw[G];rfl
 have hkl2:k2.len=r3.len+1:=by rw[G];rfl
 refine aY 0 C G<|Kw 0 C ?_;rintro⟨eb3,eo3,ka3,kc3⟩ rfl;refine Aa 7 [1,100,0] (y<|aI oM<|y2<|λ_=>ZK C C (eC Db C C) (λ_ h=>h) (λw f D=>JH (k3.size+1) w f D.vl A hA s D.res D.mz hw op3 ln3 co3 nm3 tx3 k3 ka3 kc3 e ea (Nat.lt_succ_self _) oM hwk1 D.f0 heB D.f7 (by first|omega|(dsimp only;omega))) (λ_=>Aw.stab) (λ_=>⟨Ai.mono,tQ⟩) (λer w2 f2 he hE J=>Nl hn C C C C (Ga (U.trans (DR (by rw[G];exact Yr h4 he)))) hE (J _ ZZ) (J _ WU) (J _ Yp)) ?_);rintro⟨⟨t6,Y,Z⟩,s6⟩ ⟨Q,O,hw6,hf6⟩;dsimp only at Q O hw6 hf6 ⊢;have hfm6:=Kz IL _ Q;have hvv6:s6.vars=s.vars:=hfm6.2.2.2;refine Aa 3 [0] (y<|λ_=>Z0 [2,3,4] (λ_=>True) Fy [0,1,2,3,4] Aq (rd [0,1,2,3,4,5,6,7,8,10,11] (.br 9 (.br 12 (.rd 13 .fin) .fin) .fin)) C kR kR kR C Fh<|A9 11 [1,0,1,100,0,1] (y<|y<|y<|aI oM<|y2<|y<|λ_=>Ah C ?_ Aj));refine BA C C (eC VN C C) (λw f D=>Lc (k3.size+1) w f D.vl op3 ln3 co3 nm3 tx3 k3 ka3 kc3 (Nat.lt_succ_self _) oM D.f1) (λx=>trivial) ?_;rintro⟨⟩ -;refine Aa 1 [] (λ_=>Az [0,1,2,3,4] C<|Ah C ?_ Aj);refine ZK C C (eC II C C) (λ_ h=>h) (λw f D=>Ez w f D.vl A hA s6 D.res D.mz hw6 e ea heB D.f8 F t6 Y Z O D.f0 (Br (k3.size+1) op3 k3) ln2 co2) (λ_=>Aw.stab) (λ_=>⟨AN.mono,tQ⟩) (λer w2 f2 he hE J=>Nl hn C C C C (Ga (U.trans (DR (by rw[G];exact Zw h4 Q he)))) hE (J _ ZZ) (J _ WU) (J _ Yp)) ?_;rintro⟨e7,ea7⟩ ⟨he7,heB7⟩;dsimp only at he7 heB7 ⊢;refine Aa 1 [] (λ_=>Az [0,1,2,3,4] C<|A9 1 [] (λ_=>Bx<|Aa 9 [4,1] (y<|y<|λb10=>λ_=>DI 1 0 C C X2 C C C C C C C C (λ_ _=>C) oM oM λoa2 oc2=>Aa 7 [5,1] (y<|y<|λb11=>λ_=>DI 0 0 C C Dq C C C C C C C C (λ_ _=>C) oM oM λta2 tc2=>Aa 8 [] (aI ⟨oM,oM⟩<|λ_=>?_)))))
 exact DW ((i+1,r,(out++[(F,t6)]),txs++tC t6 Y Z,ta2,tc2,oa2,oc2,e7,ea7,s6)) (show r.len<r.len+1 from Nat.lt_succ_self _) ⟨show i+1+r.len=_ by omega,U.trans (IN (by rw[G];exact fA h4 Q he7)),show (out++[(F,t6)]).length≤i+1 by rw[List.length_append];simp;omega,show (FN (out++[(F,t6)])).bnd by rw[Et];exact Ty.bnd_snoc htyb O,heB7,W.2,hrx2,hw6,show r.size≤_ by omega,show s6.fresh+200002*(r.size:Int)≤_ by omega,show (r.size:Int)-nds.size-1≤s6.vars by omega,show s6.vars≤0 by omega⟩ (qC C C C C C (Eq.trans (b:=some (Value.slice ta2 (out.length+1) tc2)) C (by dsimp only;rw[List.length_append];rfl)) C C C) (λw f D=>⟨_,by have hM9:=(D.more (B':=[]) (F':=[λw f=>Bn w f (FN (out++[(F,t6)])) (txs++tC t6 Y Z)]) nE (AM.mem ⟨by rw[Et];exact Bn.snoc D.f1 D.f8,tQ⟩) (A2.mem ⟨Bn.mono,tQ⟩)).less (sD (sD (sD (sD (sK (sK (sK sZ))))))) sR (B':=[]) nE (F':=[λw f=>B2 w f (some ⟨eb,eo,none⟩) (i+1) r,λw f=>Bn w f (FN (out++[(F,t6)])) (txs++tC t6 Y Z),λw f=>AN w f e7 ea7,λw f=>FD w f]) (mR [7,0,1,11]);dsimp only;rw[show (out++[(F,t6)]).length=out.length+1 by rw[List.length_append];rfl,show bC (Wc (out++[(F,t6)]))=bC (Wc out)++[S F,S []] by rw[Wc,List.map_append,SP.bC_app];rfl];exact hM9⟩);refine Aa 7 [] (λ_=>Bb 102 C C (λh5=>?_) (λh5=>?_));refine Aa 2 [] (λ_=>?_);have hwk:k2.wfm 3:=by rcases W.1 with L|⟨L,h8⟩|⟨L,h8⟩ <;> first|exact h8|(exfalso;have:=beq_iff_eq.1 h5;omega)
 obtain⟨op3,ln3,co3,tx3,nm3,k3,r3,rfl⟩:=Bt hwk dC;rw[Y7] at hwk;have hks:(Nd.cons op3 ln3 co3 tx3 nm3 k3 r3).size=k3.size+r3.size+1:=rfl;refine Aa 4 [1] (y<|λ_=>ZK C C (eC fU C C) (λ_ h=>h) (λw f D=>TZ (k3.size+1) (JH (k3.size+1)) w f D.vl A hA s D.res D.mz hw op2 ln2 co2 nm2 F op3 ln3 co3 nm3 tx3 k3 r3 ka kc e ea (Nat.lt_succ_self _) oM hwk D.f0 heB D.f4 oM) (λ_=>Aw.stab) (λ_=>⟨Ai.mono,tQ⟩) (λer w2 f2 he hE J=>Nl hn C C C C (Ga (U.trans (DR (Zt h5 he)))) hE (J _ ZZ) (J _ WU) (J _ Yp)) ?_);rintro⟨⟨t6,Y,Z⟩,s6⟩ ⟨Q,O,hw6,hf6⟩;dsimp only at Q O hw6 hf6 ⊢;have hfm6:=X1 IL (Kz IL _) Q;have hvv6:s6.vars=s.vars:=hfm6.2.2.2;refine Aa 11 [0,1,0,1] (y<|y<|y<|y<|λ_=>ZK C C (eC II C C) (λ_ h=>h) (λw f D=>Ez w f D.vl A hA s6 D.res D.mz hw6 e ea heB D.f5 F t6 Y Z O D.f0 true ln2 co2) (λ_=>Aw.stab) (λ_=>⟨AN.mono,tQ⟩) (λer w2 f2 he hE J=>Nl hn C C C C (Ga (U.trans (DR (ZA h5 Q he)))) hE (J _ ZZ) (J _ WU) (J _ Yp)) ?_);rintro⟨e7,ea7⟩ ⟨he7,heB7⟩;dsimp only at he7 heB7 ⊢;exact Aa 11 [4,1] (y<|y<|λb12=>λ_=>DI 1 0 C C X2 C C C C C C C C (λ_ _=>C) oM oM λoa2 oc2=>Aa 7 [5,1] (y<|y<|λb13=>λ_=>DI 0 0 C C Dq C C C C C C C C (λ_ _=>C) oM oM λta2 tc2=>Aa 8 [] (aI ⟨oM,oM⟩<|λ_=>DW ((i+1,r,(out++[(F,t6)]),txs++tC t6 Y Z,ta2,tc2,oa2,oc2,e7,ea7,s6)) (show r.len<r.len+1 from Nat.lt_succ_self _) ⟨show i+1+r.len=_ by omega,U.trans (IN (aL h5 Q he7)),show (out++[(F,t6)]).length≤i+1 by rw[List.length_append];simp;omega,show (FN (out++[(F,t6)])).bnd by rw[Et];exact Ty.bnd_snoc htyb O,heB7,W.2,hrx2,hw6,show r.size≤_ by omega,show s6.fresh+200002*(r.size:Int)≤_ by omega,show (r.size:Int)-nds.size-1≤s6.vars by omega,show s6.vars≤0 by omega⟩ (qC C C C C C (Eq.trans (b:=some (Value.slice ta2 (out.length+1) tc2)) C (by dsimp only;rw[List.length_append];rfl)) C C C) (λw f D=>⟨_,by have hM9:=(D.more (B':=[]) (F':=[λw f=>Bn w f (FN (out++[(F,t6)])) (txs++tC t6 Y Z)]) nE (AM.mem ⟨by rw[Et];exact Bn.snoc D.f1 D.f5,tQ⟩) (A2.mem ⟨Bn.mono,tQ⟩)).less (sD (sD (sD (sD (sK (sK (sK sZ))))))) sR (B':=[]) nE (F':=[λw f=>B2 w f (some ⟨eb,eo,none⟩) (i+1) r,λw f=>Bn w f (FN (out++[(F,t6)])) (txs++tC t6 Y Z),λw f=>AN w f e7 ea7,λw f=>FD w f]) (mR [4,0,1,8]);dsimp only;rw[show (out++[(F,t6)]).length=out.length+1 by rw[List.length_append];rfl,show bC (Wc (out++[(F,t6)]))=bC (Wc out)++[S F,S []] by rw[Wc,List.map_append,SP.bC_app];rfl];exact hM9⟩))));refine Aa 7 [] (λ_=>Bb 116 C C (λh6=>?_) (λh6=>?_));refine Aa 2 [] (λ_=>?_);have hwk:k2.wfm 3:=by rcases W.1 with L|⟨L,h8⟩|⟨L,h8⟩ <;> first|exact h8|(exfalso;have:=beq_iff_eq.1 h6;omega)
 obtain⟨op3,ln3,co3,tx3,nm3,k3,r3,G⟩:=Bt hwk dC;have hwk1:FK op3 k3:=by have L:=hwk;rw[G] at L;exact L
 have hks:k2.size=k3.size+r3.size+1:=by rw[G];rfl
 have hkl2:k2.len=r3.len+1:=by rw[G];rfl
 refine aY 0 C G<|Kw 0 C ?_;rintro⟨eb3,eo3,ka3,kc3⟩ rfl;refine Aa 7 [1,100,0] (y<|aI oM<|y2<|λ_=>ZK C C (eC Db C C) (λ_ h=>h) (λw f D=>JH (k3.size+1) w f D.vl A hA s D.res D.mz hw op3 ln3 co3 nm3 tx3 k3 ka3 kc3 e ea (Nat.lt_succ_self _) oM hwk1 D.f0 heB D.f7 (by first|omega|(dsimp only;omega))) (λ_=>Aw.stab) (λ_=>⟨Ai.mono,tQ⟩) (λer w2 f2 he hE J=>Nl hn C C C C (Ga (U.trans (DR (by rw[G];exact fT h6 he)))) hE (J _ ZZ) (J _ WU) (J _ Yp)) ?_);rintro⟨⟨t6,Y,Z⟩,s6⟩ ⟨Q,O,hw6,hf6⟩;dsimp only at Q O hw6 hf6 ⊢;have hfm6:=Kz IL _ Q;have hvv6:s6.vars=s.vars:=hfm6.2.2.2;refine Aa 16 [0,1,4,1] (y<|y<|y<|y<|λb14=>λ_=>DI 1 0 C C X2 C C C C C C C C (λ_ _=>C) oM oM λoa2 oc2=>Aa 7 [5,1] (y<|y<|λb15=>λ_=>DI 0 0 C C Dq C C C C C C C C (λ_ _=>C) oM oM λta2 tc2=>Aa 8 [] (aI ⟨oM,oM⟩<|λ_=>?_)));exact DW ((i+1,r,(out++[(([]:lU),t6)]),txs++tC t6 Y Z,ta2,tc2,oa2,oc2,e,ea,s6)) (show r.len<r.len+1 from Nat.lt_succ_self _) ⟨show i+1+r.len=_ by omega,U.trans (IN (by rw[G];exact mE h6 Q)),show (out++[(([]:lU),t6)]).length≤i+1 by rw[List.length_append];simp;omega,show (FN (out++[(([]:lU),t6)])).bnd by rw[Et];exact Ty.bnd_snoc htyb O,heB,W.2,hrx2,hw6,show r.size≤_ by omega,show s6.fresh+200002*(r.size:Int)≤_ by omega,show (r.size:Int)-nds.size-1≤s6.vars by omega,show s6.vars≤0 by omega⟩ (qC C C C C C (Eq.trans (b:=some (Value.slice ta2 (out.length+1) tc2)) C (by dsimp only;rw[List.length_append];rfl)) C C C) (λw f D=>⟨_,by have hM9:=(D.more (B':=[]) (F':=[λw f=>Bn w f (FN (out++[(([]:lU),t6)])) (txs++tC t6 Y Z)]) nE (AM.mem ⟨by rw[Et];exact Bn.snoc D.f0 D.f7,tQ⟩) (A2.mem ⟨Bn.mono,tQ⟩)).less (sD (sD (sD (sD (sK (sK (sK sZ))))))) sR (B':=[]) nE (F':=[λw f=>B2 w f (some ⟨eb,eo,none⟩) (i+1) r,λw f=>Bn w f (FN (out++[(([]:lU),t6)])) (txs++tC t6 Y Z),λw f=>AN w f e ea,λw f=>FD w f]) (mR [6,0,9,10]);dsimp only;rw[show (out++[(([]:lU),t6)]).length=out.length+1 by rw[List.length_append];rfl,show bC (Wc (out++[(([]:lU),t6)]))=bC (Wc out)++[S ([]:lU),S []] by rw[Wc,List.map_append,SP.bC_app];rfl];exact hM9⟩);exfalso;have gh2:=beq_eq_false_iff_ne.1 h2;have gh3:=beq_eq_false_iff_ne.1 h3;have gh4:=beq_eq_false_iff_ne.1 h4;have gh5:=beq_eq_false_iff_ne.1 h5;have gh6:=beq_eq_false_iff_ne.1 h6;rcases W.1 with L|⟨L,h8⟩|⟨L,h8⟩ <;> omega
 refine Aa 3 [] (λ_=>GP<|Aa 4 [] (λ_=>?_));obtain rfl:r=.nil:=Nd.len0 (by have:=dF h1;omega);have hti2:EA ES B5 nds []=.ok (out,s):=U;have hol2:out.length≤200000:=oM;refine Sp (λw f=>Ai w f (FN out) ta tc) Ai.mono (λw f D=>HQ D D.f1)<|Aa 7 [] (λ_=>?_);refine HE (α:=List (lU×lU)×List (lU×T1)) (λx=>x.2.length) (λx=>x.1.length+x.2.length=out.length∧(CY nds=match Jn s x.2 with|.error e=>.error e|.ok l=>.ok (x.1++l))∧(FN x.2).bnd) (λx=>(E7 2 (pB b1) 3 (pB b2) 4 (pB b3) 5 (pB A.cb) 137 (.slice ta out.length tc) 138 (iV (out.length:Int)) 139 (iV (x.1.length:Int)))) (λx=>⟨λ_=>False,BD A,Aw 76 140 A s,w,f⟩) (λx=>[⟨b3,[iV 0],26,true⟩,⟨b2,[iV 0,iV 0],25,true⟩,⟨b1,[.slice oa out.length oc],29,true⟩]) (λx=>[⟨34,2,oa,oc,out.length,bC (RE x.1 x.2)⟩]) (λx=>[]) (λx=>[λw f=>Cc w f ta x.1.length (FN x.2)]) ([],out) ⟨by simp,(wC hti2).trans Vv,htyb⟩ lE (λw f D=>D.more (B':=[]) (F':=[λw f=>Cc w f ta 0 (FN out)]) nE (AM.mem ⟨Ai.at D.f0,tQ⟩) (A2.mem ⟨Cc.mono,tQ⟩) |>.less (sK (sK (sK sZ))) sR nE (mR [0])) ?_;rintro⟨d,r⟩ ⟨hdl,hfi,htyr⟩;dsimp only at hdl hfi htyr ⊢;refine Aa 6 [] (λ_=>Bb 140 C C (λh7=>?_) (λh7=>?_));refine Aa 6 [] (λ_=>?_);have hjl:d.length<out.length:=by have:=dT h7;omega
 obtain⟨⟨nm2,t2⟩,r2,rfl⟩:∃p q,r=p::q:=by cases r with|nil=>simp only[List.length_nil] at hdl;omega|cons p q=>exact⟨p,q,C⟩
 have htb2:t2.bnd∧(FN r2).bnd:=T1.bnd_cons.1 htyr;refine KH (p:=∃ob,oa=some ⟨ob,0,none⟩) (λw f D=>by rcases (D.row _ (.head _)).2 with ⟨_,_,L⟩|⟨ob,_,L,_⟩;(dsimp only at L;omega);exact⟨ob,L⟩) λhob=>?_;obtain⟨ob,rfl⟩:=hob;refine Nq (α:=Nat×Nat×oA×Nat) (λx=>ta=some ⟨x.1,x.2.1,none⟩) (λx=>[⟨x.1,x.2.1+d.length*4,tC t2 x.2.2.1 x.2.2.2⟩]) (λx=>[λw f=>Ai w f t2.kids x.2.2.1 x.2.2.2,λw f=>Cc w f ta (d.length+1) (FN r2)]) (λw f D=>let ⟨b,off,ka,kc,h1,h2,h3,h4⟩:=Cc.head (show Cc w f ta d.length (t2.cons (FN r2)) from D.f0);⟨(b,off,ka,kc),h1,(oE h2),AM.mem ⟨h3,h4,tQ⟩⟩) (λx=>A2.mem ⟨Ai.mono,Cc.mono,tQ⟩) ?_;rintro⟨ab2,ao2,ka2,kc2⟩ rfl;refine Aa 9 [100,0,0] (aI oM<|y2<|λb16=>y<|λ_=>Z0 [2,3,4] (λ_=>True) Fy [0,1,2,3] Aq (rd [0,1,2,3,4] (.br 5 (.br 6 (.rd 7 (.rd 8 (.br 9 .fin .fin))) .fin) .fin)) C kR kR kR C Fh<|A9 5 [3,0] (y<|y<|λ_=>Ah C ?_ Aj));refine ZK C C (eC FU C C) (λ_ h=>h) (λw f D=>C8 w f D.vl A hA s D.res D.mz hw t2 ka2 kc2 htb2.1 D.f0 0 0) (λ_=>Aw.stab) (λ_=>⟨Ai.mono,tQ⟩) (λer w2 f2 he hE J=>Nl hn C C C C (by rw[hfi,fC he]) hE (J _ WU) (J _ Yp) (J _ sT)) ?_;rintro⟨u2,ua2,uc2⟩ ⟨hfu,hub2,hus2⟩;dsimp only at hfu hub2 hus2 ⊢;refine Aa 1 [] (λ_=>Az [0,1,2,3] C<|Ah C ?_ Aj);refine BA C C (eC vM C C) (λw f D=>YS w f D.vl u2 ua2 uc2 hus2 hub2 D.f0) (λx=>trivial) ?_;rintro⟨⟩ -;refine Aa 1 [] (λ_=>Az [0,1,2,3] C<|A9 2 [] (aI oM<|λ_=>Ah C ?_ Aj));exact mrs 0 (bC (RE (d++[(nm2,De u2)]) r2)) C C C C zM C C C (by simp only[Nat.zero_add,List.length_cons,List.length_nil,Int.toNat_natCast];omega) (by rw[Nat.zero_add,Int.toNat_natCast];exact Yq) C<|Aa 1 [] (λ_=>Az [0,1,2,3] C<|Bx<|Aa 6 [] (aI ⟨oM,oM⟩<|λ_=>DW ((d++[(nm2,De u2)],r2)) (show r2.length<((nm2,t2)::r2).length from Nat.lt_succ_self _) ⟨show (d++[(nm2,De u2)]).length+r2.length=_ by simp only[List.length_append,List.length_cons,List.length_nil] at hdl ⊢;omega,hfi.trans (Zq hfu),htb2.2⟩ (lu7 C C C C C C (Eq.trans (b:=some (Value.int .i64 ((d.length:Int)+1))) C (by dsimp only;simp))) (λw f D=>⟨_,by have hM9:=D.less (sD (sK (sK (sK sZ)))) sR (B':=[]) nE (F':=[λw f=>Cc w f (some ⟨ab2,ao2,none⟩) (d.length+1) (FN r2)]) (mR [2]);dsimp only;rw[List.length_append];exact hM9⟩)));refine Aa 3 [] (λ_=>GP<|Aa 3 [] (λ_=>?_));obtain rfl:r=[]:=by have L:=dF h7;cases r with|nil=>rfl|cons p q=>simp only[List.length_cons] at hdl;omega
 refine Aa 9 [2,2,1,0] (y<|y<|y<|y<|λ_=>λw9 f9 D=>?_);obtain⟨f8,hM8,hB8⟩:=vJ (l:=RE d []) (by have hM9:=D;rw[show out.length=(RE d []).length by rw[RE,List.length_append];simp only[List.map_nil,List.length_nil];exact hdl.symm] at hM9;exact hM9);have hinf:CY nds=.ok d:=by rw[hfi];show (Except.ok (d++[]):RI _)=_;rw[List.append_nil]
 have hdd:RE d []=d:=List.append_nil d;rw[hdd] at hB8;exact λtmps ht=>zD C C C C hinf hM8.exm hB8 (by have L:=hM8.blk _ Yp;rw[hdd] at L;exact L) (hM8.blk _ sT) (hM8.blk _ om0) tmps ht
end Go.Proofs.YtgdndhedjlmagaaGreatDoor
namespace Go.SP
open Go.SW Go.RowKit
def Fo.sz:Fo→Nat
 |.nil=>0
 |.cons _ k r=>k.sz+r.sz+1
structure NW(k:Fo)(a:N):Prop where
 tx:a.tx.length≤100000
 kt:a.kids.txb
 sz:a.kids.size+2≤2*(k.sz+1)
def EW(f:A4→Fo→R N):Prop:=∀t k a,t.ok→k.ok→f t k=.ok a→NW k a
theorem Jm{f:A4→Fo→R N}(F:EW f):∀(fo:Fo)(x:Nd),fo.ok→AA f fo=.ok x→x.txb∧x.size+x.len≤2*fo.sz∧x.len=fo.len
 |.nil,x,_,h=>by cases h;exact⟨tQ,Nat.le_refl _,C⟩
 |.cons t k r,x,hk,h=>by
   unfold AA at h
   split at h
   · cases h
   rename_i a G
   split at h
   · cases h
   rename_i b J
   cases h
   have D:=F t k a hk.1 hk.2.1 G;obtain⟨K,O,L⟩:=Jm F r b hk.2.2.2 J;refine⟨⟨D.tx,D.kt,K⟩,?_,by simp only[N.cons,Nd.len,Fo.len,L]⟩;have:=D.sz;simp only[N.cons,Nd.size,Nd.len,Fo.sz];omega
variable {h:A4}{hk:Fo}{co ln:Int}{n:Nat}{ks:Nd}
theorem pQ{t:A4}{k:Fo}{op nm:Int}{tx:lU}(h:tx.length≤100000):NW k ⟨op,ln,co,tx,nm,.nil⟩:=⟨h,tQ,by simp only[Nd.size];omega⟩
theorem xM{f:A4→Fo→R N}(D:EW f){l:Fo}(F:(Fo.cons h hk l).ok){op nm:Int}{tx:lU}(G:tx.length≤100000)(he:AA f l=.ok ks):NW (.cons h hk l) ⟨op,ln,co,tx,nm,ks⟩:=by
 obtain⟨J,K,_⟩:=Jm D l ks F.2.2.2 he;refine⟨G,J,?_⟩;simp only[Fo.sz];omega
theorem nwA{f:A4→Fo→R N}(D:EW f){l:Fo}(F:l.ok){op nm:Int}{tx:lU}(G:tx.length≤100000)(he:AA f l=.ok ks):NW l ⟨op,ln,co,tx,nm,ks⟩:=by
 obtain⟨J,K,_⟩:=Jm D l ks F he;refine⟨G,J,?_⟩;simp only;omega
theorem XH:EW H2:=λt k a D _ h=>by
 unfold H2 at h
 cases h
 split
 · exact pQ (t:=t) (Nat.zero_le _)
 · exact pQ (t:=t) D.2
theorem dU:∀n,EW (Dw n)
 |0=>λ_ _ _ _ _ h=>by cases h
 |n+1=>λt k a D hk h=>by
   have F:=dU n;unfold Dw at h;simp only[need] at h
   repeat' (split at h)
   all_goals first
     |(cases h;done)
     |exact XH t _ a D hk h
     |(cases h;first|exact pQ (t:=t) (Nat.zero_le _)|exact pQ (t:=t) D.2|exact xM F hk (Nat.zero_le _) (by assumption)|exact xM F hk hk.1.2 (by assumption))
theorem S4{t:A4}:∀(x:Nd)(o:N),x.txb→CW t x=some o→o.tx.length≤100000∧o.kids.txb∧o.kids.size+2≤x.size+x.len
 |.nil,_,_,h=>by cases h
 |.cons op ln co tx nm kids .nil,o,D,h=>by
   unfold CW at h
   cases h
   exact⟨D.1,D.2.1,by simp only[Nd.size,Nd.len];omega⟩
 |.cons op ln co tx nm kids (.cons a b c d e f r),o,D,h=>by
   unfold CW at h;simp only at h
   cases F:CW t (.cons a b c d e f r) with
   |none=>rw[F] at h;cases h
   |some q =>
     rw[F] at h
     cases h
     obtain⟨G,J,K⟩:=S4 (.cons a b c d e f r) q D.2.2 F;refine⟨by simp[Av],⟨D.1,D.2.1,G,J,tQ⟩,?_⟩;simp only[Av,N.one,N.cons,Nd.size,Nd.len] at K ⊢;omega
theorem Js{α:Type}{t:A4}{b:Bool}{x:R α}{a:α}(h:need t b x=.ok a):b=true∧x=.ok a:=by
 unfold need at h
 split at h
 · rename_i D;exact⟨D,h⟩
 · cases h
theorem Vc:∀n,EW (Dm n)
 |0=>λ_ _ _ _ _ h=>by cases h
 |n+1=>λt k a F hk h=>by
   have G:=Vc n;unfold Dm at h
   by_cases D:(t.k==0)=true
   · rw[if_pos D] at h
     split at h
     · cases h
     rename_i hd J l;simp only at h
     by_cases hw:hd.isWord [45,62]=true
     · rw[if_pos hw] at h
       obtain⟨_,h⟩:=Js h
       split at h
       · cases h
       rename_i ks he;obtain⟨K,U,W⟩:=Jm G l ks hk.2.2.2 he
       split at h
       · rename_i o L
         cases h
         obtain⟨O,Q,Y⟩:=S4 ks _ K L;exact⟨O,Q,by simp only[Fo.sz];omega⟩
       · cases h
     · rw[if_neg hw] at h
       obtain⟨_,h⟩:=Js h
       split at h
       · cases h
       rename_i ks he
       cases h
       exact xM G hk hk.1.2 he
   · rw[if_neg D] at h
     split at h
     · cases h;exact pQ (t:=t) F.2
     · obtain⟨_,h⟩:=Js h
       cases h;exact pQ (t:=t) F.2
theorem sI{ex:A4→Fo→R N}(hex:EW ex):EW (Fb n ex):=λt k a G hk h=>by
 unfold Fb at h
 split at h
 · rename_i p J b bk
   obtain⟨_,h⟩:=Js h
   split at h
   · cases h
   rename_i q D;obtain⟨_,h⟩:=Js h
   split at h
   · cases h
   rename_i x F
   cases h
   have D:=dU n _ _ _ hk.1 hk.2.1 D;have F:=hex _ _ _ hk.2.2.2.1 hk.2.2.2.2.1 F;refine⟨by simp[Av],⟨D.tx,D.kt,F.tx,F.kt,tQ⟩,?_⟩;have:=D.sz;have:=F.sz;simp only[Av,N.one,N.cons,Nd.size,Fo.sz];omega
 · cases h
theorem RX:∀{x y:Nd},x.txb→y.txb→(x.app y).txb
 |.nil,_,_,h=>h
 |.cons _ _ _ _ _ _ _,_,h,D=>⟨h.1,h.2.1,RX h.2.2 D⟩
theorem O8:∀(x y:Nd),(x.app y).size=x.size+y.size
 |.nil,_=>by simp[Nd.app,Nd.size]
 |.cons _ _ _ _ _ _ r,y=>by simp only[Nd.app,Nd.size,O8 r y];omega
theorem nw2{x y:N}{k1 k2 k:Fo}(D:NW k1 x)(F:NW k2 y)(J:k1.sz+k2.sz+2≤k.sz){op nm:Int}{tx:lU}(G:tx.length≤100000):NW k ⟨op,ln,co,tx,nm,x.cons y.one⟩:=by
 refine⟨G,⟨D.tx,D.kt,F.tx,F.kt,tQ⟩,?_⟩;have:=D.sz;have:=F.sz;simp only[N.one,N.cons,Nd.size];omega
theorem nw1{x:N}{k1 k:Fo}(D:NW k1 x)(G:k1.sz+1≤k.sz){op nm:Int}{tx:lU}(F:tx.length≤100000):NW k ⟨op,ln,co,tx,nm,x.one⟩:=by
 refine⟨F,⟨D.tx,D.kt,tQ⟩,?_⟩;have:=D.sz;simp only[N.one,N.cons,Nd.size];omega
theorem nI{ex:A4→Fo→R N}(hex:EW ex){t:A4}{w:lU}{l:Fo}{a:N}(D:l.ok)(h:Bf n ex t w l=.ok a):NW l a:=by
 unfold Bf at h;simp only[need] at h
 split at h
 · split at h
   · split at h
     · split at h
       · cases h
       rename_i Q F
       split at h
       · cases h
       rename_i x G
       cases h
       obtain⟨K,L,_⟩:=Jm XH _ _ D.2.1 F;have J:=hex _ _ _ D.2.2.2.1 D.2.2.2.2.1 G;refine⟨by simp[Av],RX K ⟨J.tx,J.kt,tQ⟩,?_⟩;have:=J.sz;simp only[Av,O8,N.one,N.cons,Nd.size,Fo.sz];omega
     · cases h
   · cases h
 split at h
 · split at h
   · split at h
     · split at h
       · cases h
       rename_i x F
       split at h
       · cases h
       rename_i y G
       cases h
       exact nw2 (hex _ _ _ D.2.2.2.1 D.2.2.2.2.1 F) (hex _ _ _ D.2.2.2.2.2.2.1 D.2.2.2.2.2.2.2.1 G) (by simp only[Fo.sz];omega) D.1.2
     · cases h
   · cases h
 split at h
 · split at h
   · split at h
     · split at h
       · cases h
       rename_i x F
       split at h
       · cases h
       rename_i y G
       cases h
       exact nw2 (hex _ _ _ D.2.2.2.1 D.2.2.2.2.1 F) (hex _ _ _ D.2.2.2.2.2.2.1 D.2.2.2.2.2.2.2.1 G) (by simp only[Fo.sz];omega) D.1.2
     · cases h
   · cases h
 iterate 3
   split at h
   · split at h
     · split at h
       · cases h
       rename_i ks F
       cases h
       exact nwA hex D (Nat.zero_le _) F
     · cases h
 split at h
 · split at h
   · split at h
     · cases h
     · split at h
       · cases h
       rename_i x F
       split at h
       · cases h
       rename_i O G
       cases h
       have J:=hex _ _ _ D.1 D.2.1 F;obtain⟨K,L,_⟩:=Jm (sI hex) _ _ D.2.2.2 G;refine⟨by simp[Av],⟨J.tx,J.kt,K⟩,?_⟩;have:=J.sz;simp only[Av,N.cons,Nd.size,Fo.sz];omega
   · cases h
 split at h
 · split at h
   · split at h
     · cases h
     rename_i x F
     cases h
     exact nw1 (hex _ _ _ D.1 D.2.1 F) (by simp only[Fo.sz];omega) (Nat.zero_le _)
   · cases h
 · cases h
theorem zS{l:Fo}{a:N}(D:NW l a):NW (.cons h hk l) a:=⟨D.tx,D.kt,by have:=D.sz;simp only[Fo.sz];omega⟩
theorem Pe:∀n,EW (AO n)
 |0=>λ_ _ _ _ _ h=>by cases h
 |n+1=>λt k a F hk h=>by
   have D:=Pe n;unfold AO at h;simp only[need] at h
   repeat' (split at h)
   all_goals first
     |(cases h;done)
     |exact zS (nI D hk.2.2.2 h)
     |(cases h;first|exact pQ (t:=t) (Nat.zero_le _)|exact pQ (t:=t) F.2|exact xM D hk hk.1.2 (by assumption)|exact nwA D hk (Nat.zero_le _) (by assumption))
theorem lK(n:Nat):EW (FL n):=λt k a D hk h=>by
 unfold FL at h;simp only[need] at h
 repeat' (split at h)
 all_goals first
   |(cases h;done)
   |(cases h;exact xM (Vc n) hk hk.1.2 (by assumption))
theorem Tr:∀(k:Fo)(x:Nd),k.ok→BO k=some x→x.txb∧x.size≤k.sz
 |.nil,x,_,h=>by cases h;exact⟨tQ,Nat.le_refl _⟩
 |.cons v _ r,x,hk,h=>by
   unfold BO at h
   split at h
   · cases D:BO r with
     |none=>rw[D] at h;cases h
     |some y =>
       rw[D] at h
       cases h
       have:=Tr r y hk.2.2.2 D;exact⟨⟨hk.1.2,tQ,this.1⟩,by simp only[Av,N.cons,Nd.size,Fo.sz];omega⟩
   · cases h
theorem vK(n:Nat):EW (Cj n):=λt k a Q hk h=>by
 unfold Cj at h;simp only[need] at h
 split at h
 · cases h
 rename_i hd G l;have D:=hk.2.2.2
 split at h
 · split at h
   · split at h
     · split at h
       · split at h
         · cases h
         rename_i vs J
         split at h
         · cases h
         rename_i cs F
         cases h
         obtain⟨K,U⟩:=Tr _ _ D.2.2.2.2.1 J;obtain⟨L,e4,_⟩:=Jm (lK n) _ _ D.2.2.2.2.2.2 F;refine⟨D.1.2,RX K L,?_⟩;simp only[Av,O8,Fo.sz] at e4 ⊢;omega
       · cases h
     · cases h
   split at h
   · split at h
     · split at h
       · split at h
         · cases h
         rename_i x F
         split at h
         · cases h
         rename_i y O
         cases h
         exact nw2 (Vc n _ _ _ D.2.2.2.1 D.2.2.2.2.1 F) (Pe n _ _ _ D.2.2.2.2.2.2.1 D.2.2.2.2.2.2.2.1 O) (by simp only[Fo.sz];omega) D.1.2
       · cases h
     · cases h
   split at h
   · split at h
     · split at h
       · split at h
         · cases h
         rename_i x F
         cases h
         exact nw1 (Pe n _ _ _ D.2.2.2.1 D.2.2.2.2.1 F) (by simp only[Fo.sz];omega) D.1.2
       · cases h
     · cases h
   split at h
   · split at h
     · split at h
       · split at h
         · cases h
         rename_i x F
         cases h
         exact nw1 (Pe n _ _ _ D.2.2.2.1 D.2.2.2.2.1 F) (by simp only[Fo.sz];omega) D.1.2
       · cases h
     · cases h
   split at h
   · split at h
     · split at h
       · cases h
       rename_i x F
       cases h
       exact nw1 (Pe n _ _ _ D.1 D.2.1 F) (by simp only[Fo.sz];omega) (Nat.zero_le _)
     · cases h
   · cases h
 · cases h
def EX(f:A4→Fo→R N):Prop:=∀t k a,f t k=.ok a→FK a.op a.kids
theorem Mu{f:A4→Fo→R N}(D:EX f):∀(fo:Fo)(x:Nd),AA f fo=.ok x→x.wfm 0
 |.nil,x,h=>by cases h;exact .inl C
 |.cons t k r,x,h=>by
   unfold AA at h
   split at h
   · cases h
   rename_i a F
   split at h
   · cases h
   rename_i b G
   cases h
   exact⟨D t k a F,Mu D r b G⟩
theorem H0{f:A4→Fo→R N}:∀(fo:Fo)(x:Nd),AA f fo=.ok x→x.len=fo.len
 |.nil,x,h=>by cases h;rfl
 |.cons t k r,x,h=>by
   unfold AA at h
   split at h
   · cases h
   split at h
   · cases h
   rename_i b D
   cases h
   simp only[N.cons,Nd.len,Fo.len,H0 r b D]
def PX(f:A4→Fo→R N):Prop:=∀t k a,f t k=.ok a→(21≤a.op∧a.op≤27)∧a.kids.wfm 9
theorem iO{f:A4→Fo→R N}(D:PX f):∀(fo:Fo)(x:Nd),AA f fo=.ok x→x.wfm 9
 |.nil,x,h=>by cases h;exact .inr (.inr C)
 |.cons t k r,x,h=>by
   unfold AA at h
   split at h
   · cases h
   rename_i a F
   split at h
   · cases h
   rename_i b G
   cases h
   exact⟨D t k a F,iO D r b G⟩
theorem eR:∀n,PX (Dw n)
 |0=>λt k a h=>by cases h
 |n+1=>λt k a h=>by
   unfold Dw at h;simp only[need,H2] at h
   repeat' (split at h)
   all_goals first
     |(cases h;done)
     |(cases h;exact⟨⟨by simp[Av],by simp[Av]⟩,.inr (.inr C)⟩)
     |(rename_i D;cases h;exact⟨⟨by simp[Av],by simp[Av]⟩,iO (eR n) _ _ D⟩)
theorem dR{ex:A4→Fo→R N}(hex:EX ex):∀(fo:Fo)(x:Nd),AA (Fb n ex) fo=.ok x→x.wfm 1
 |.nil,x,h=>by cases h;exact .inr (.inl C)
 |.cons t k r,x,h=>by
   unfold AA at h
   split at h
   · cases h
   rename_i a D
   split at h
   · cases h
   rename_i b F
   cases h
   refine⟨?_,dR hex r b F⟩;unfold Fb at D;simp only[need] at D
   repeat' (split at D)
   all_goals first
     |(cases D;done)
     |(rename_i G _ _ _ J;cases D;exact⟨eR n _ _ _ G,hex _ _ _ J⟩)
theorem Aa2:∀(D:Nd){x:N},FK x.op x.kids→(D.app x.one).wfm 4
 |.nil,x,h=>.inl ⟨C,h⟩
 |.cons op ln co tx nm k r,x,h=>by
   refine .inr ⟨?_,Aa2 r h⟩
   cases r <;> simp[Nd.app,N.one,N.cons]
theorem iX:∀{x:Nd},x.wfm 0→x.len=3→x.wfm 7
 |.cons _ _ _ _ _ _ (.cons _ _ _ _ _ _ (.cons _ _ _ _ _ _ .nil)),h,_=>⟨h.1,h.2.1,h.2.2.1⟩
 |.nil,_,h=>by cases h
 |.cons _ _ _ _ _ _ .nil,_,h=>by cases h
 |.cons _ _ _ _ _ _ (.cons _ _ _ _ _ _ .nil),_,h=>by cases h
 |.cons _ _ _ _ _ _ (.cons _ _ _ _ _ _ (.cons _ _ _ _ _ _ (.cons _ _ _ _ _ _ _))),_,h=>by simp[Nd.len] at h
theorem kO{ex:A4→Fo→R N}(hex:EX ex){t:A4}{w:lU}{l:Fo}{a:N}(h:Bf n ex t w l=.ok a):FK a.op a.kids:=by
 unfold Bf at h;simp only[need] at h
 split at h
 · repeat' (split at h)
   all_goals first
     |(cases h;done)
     |(rename_i G;cases h;exact .inr (.inr (.inl ⟨C,Aa2 _ (hex _ _ _ G)⟩)))
 split at h
 · repeat' (split at h)
   all_goals first
     |(cases h;done)
     |(rename_i D _ _ G;cases h;exact .inr (.inr (.inr (.inr (.inl ⟨.inl C,hex _ _ _ D,hex _ _ _ G⟩)))))
 split at h
 · repeat' (split at h)
   all_goals first
     |(cases h;done)
     |(rename_i D _ _ G;cases h;exact .inr (.inr (.inr (.inr (.inl ⟨.inr C,hex _ _ _ D,hex _ _ _ G⟩)))))
 split at h
 · split at h
   · rename_i F
     split at h
     · cases h
     rename_i ks D
     cases h
     have e:=H0 _ _ D;have F:=beq_iff_eq.1 F;exact .inr (.inr (.inr (.inr (.inr (.inl ⟨C,iX (Mu hex _ _ D) (show ks.len=3 by omega)⟩)))))
   · cases h
 split at h
 · split at h
   · rename_i F
     split at h
     · cases h
     rename_i ks D
     cases h
     have e:=H0 _ _ D;have F:=dT F;exact .inr (.inr (.inr (.inl ⟨.inr C,by show 0<ks.len;omega,Mu hex _ _ D⟩)))
   · cases h
 split at h
 · split at h
   · split at h
     · cases h
     rename_i ks D
     cases h
     exact .inr (.inr (.inr (.inr (.inr (.inr (.inl ⟨C,Mu hex _ _ D⟩))))))
   · cases h
 split at h
 · split at h
   · rename_i F
     split at h
     · cases h
     · split at h
       · cases h
       rename_i x D
       split at h
       · cases h
       rename_i J G
       cases h
       have e:=H0 _ _ G;have F:=dT F;simp only[Fo.len] at F;refine .inr (.inr (.inr (.inr (.inr (.inr (.inr (.inl ⟨?_,hex _ _ _ D,by show 0<J.len;omega,dR hex _ _ G⟩)))))));simp only[Av]
       split
       · exact .inr C
       · exact .inl C
   · cases h
 split at h
 · split at h
   · split at h
     · cases h
     rename_i x D
     cases h
     refine .inr (.inr (.inr (.inr (.inr (.inr (.inr (.inr ⟨?_,hex _ _ _ D⟩)))))));simp only[Av]
     split
     · exact .inr C
     · exact .inl C
   · cases h
 · cases h
theorem Pu:∀n,EX (AO n)
 |0=>λ_ _ _ h=>by cases h
 |n+1=>λt k a h=>by
   have F:=Pu n;unfold AO at h;simp only[need] at h
   iterate 4
     split at h
     · cases h;first|exact .inr (.inl ⟨rfl,.inl rfl⟩)|exact .inl (by simp[Av])
   split at h
   · split at h
     · cases h;exact .inl (by simp[Av])
     · cases h
   split at h
   · cases h;exact .inl (by simp[Av])
   split at h
   · split at h
     · split at h
       · cases h
       rename_i ks D
       cases h
       exact .inr (.inl ⟨C,Mu F _ _ D⟩)
     · cases h
   split at h
   · exact kO F h
   · split at h
     · split at h
       · cases h
       rename_i ks D
       cases h
       have e:=H0 _ _ D;exact .inr (.inr (.inr (.inl ⟨.inl C,by show 0<ks.len;rw[e];exact Nat.succ_pos _,Mu F _ _ D⟩)))
     · cases h
theorem vG{t:A4}{k:Fo}{a:N}(h:Cj n t k=.ok a):a.op=41∨(a.op=43∧a.kids.wfm 2)∨((a.op=44∨a.op=45∨a.op=46)∧a.kids.wfm 3):=by
 unfold Cj at h;simp only[need] at h
 split at h
 · cases h
 split at h
 · split at h
   · repeat' (split at h)
     all_goals first
       |(cases h;done)
       |(cases h;exact .inl C)
   split at h
   · repeat' (split at h)
     all_goals first
       |(cases h;done)
       |(rename_i D;cases h;exact .inr (.inl ⟨C,Pu n _ _ _ D⟩))
   split at h
   · repeat' (split at h)
     all_goals first
       |(cases h;done)
       |(rename_i D;cases h;exact .inr (.inr ⟨.inl C,Pu n _ _ _ D⟩))
   split at h
   · repeat' (split at h)
     all_goals first
       |(cases h;done)
       |(rename_i D;cases h;exact .inr (.inr ⟨.inr (.inl C),Pu n _ _ _ D⟩))
   split at h
   · repeat' (split at h)
     all_goals first
       |(cases h;done)
       |(rename_i D;cases h;exact .inr (.inr ⟨.inr (.inr C),Pu n _ _ _ D⟩))
   · cases h
 · cases h
theorem gF:∀(fo:Fo)(x:Nd),AA (Cj n) fo=.ok x→x.wft
 |.nil,x,h=>by cases h;trivial
 |.cons t k r,x,h=>by
   unfold AA at h
   split at h
   · cases h
   rename_i a D
   split at h
   · cases h
   rename_i b F
   cases h
   exact⟨vG D,gF r b F⟩
theorem RQ:∀(a:Fo)(t:A4)(k:Fo),(a.snoc t k).sz=a.sz+k.sz+1
 |.nil,_,_=>by simp[Fo.snoc,Fo.sz]
 |.cons _ _ r,t,k=>by simp only[Fo.snoc,Fo.sz,RQ r t k];omega
def Z5:List (A4×Fo)→Nat
 | []=>0
 |(_,p)::s=>p.sz+1+Z5 s
theorem Lo:∀(l:List A4)(st:List (A4×Fo))(cur fo:Fo),Ar l st cur=.ok fo→fo.sz≤Z5 st+cur.sz+l.length
 | [],[],cur,fo,h=>by simp only[Ar] at h;cases h;simp[Z5]
 | [],(o,p)::s,cur,fo,h=>by unfold Ar at h;split at h <;> cases h
 |k::l,st,cur,fo,h=>by
   unfold Ar at h
   split at h
   · split at h
     · cases h
     · have:=Lo l _ _ _ h
       simp only[Z5,Fo.sz,List.length_cons] at this ⊢;omega
   · split at h
     · cases st with
       |nil=>cases h
       |cons op s =>
         have:=Lo l _ _ _ h;simp only[Z5,RQ,List.length_cons] at this ⊢;omega
     · have:=Lo l _ _ _ h
       simp only[RQ,Fo.sz,List.length_cons] at this ⊢;omega
structure WfN(nds:Nd):Prop where
 wft:nds.wft
 txb:nds.txb
 size:nds.size≤200000
theorem nJ(n:Nat)(src:lU):WfN (Hp n (IH src)).1:=by
 unfold Hp
 cases G:IH src with
 |error e=>exact⟨tQ,tQ,Nat.zero_le _⟩
 |ok D =>
   obtain⟨Q,J⟩:=Yb G;simp only
   cases F:Ar D [] .nil with
   |error e=>exact⟨tQ,tQ,Nat.zero_le _⟩
   |ok fo =>
     simp only
     cases he:AA (Cj n) fo with
     |error e=>exact⟨tQ,tQ,Nat.zero_le _⟩
     |ok nds =>
       have K:=(Hl D 0 [] .nil fo J oM (by simp) tQ tQ (by simp[Fo.len]) (by rfl) F).1;have L:=Lo D [] .nil fo F;obtain⟨O,U,_⟩:=Jm (vK n) fo nds K he;simp only[Z5,Fo.sz] at L;exact⟨gF fo nds he,O,by show nds.size≤_;omega⟩
theorem cO{a b:Int}:((a,b,11):Er).2.2≠0:=(by decide:(11:Int)≠0)
theorem e4{a b:Int}:((a,b,4):Er).2.2≠0:=(by decide:(4:Int)≠0)
theorem mB{b:Bk}{n:Int}{t:T1}{x:Int}(h:BG b n t=.error x):x≠0:=by
 unfold BG at h
 repeat' split at h
 all_goals (cases h;try decide)
theorem PJ{f:Bk→Ty→Ty→Except Int Bk}(D:∀ {b x y e},f b x y=.error e→e≠0){b:Bk}{x y:T1}{r q:Ty}{e:Int}(h:BV f b x y r q=.error e):e≠0:=by
 unfold BV at h
 repeat' split at h
 all_goals first
   |exact D h
   |(cases h;first|decide|exact mB (by assumption))
theorem MO:∀(k:Nat){b:Bk}{x y:Ty}{e:Int},Bz k b x y=.error e→e≠0
 |k,b,.nil,y,e,h=>by cases k <;> cases h
 |0,b,.var _ _,y,e,h=>by cases h;decide
 |0,b,.con _ _ _,y,e,h=>by cases h;decide
 |k+1,b,.var n r,y,e,h=>PJ (MO k) h
 |k+1,b,.con tx ka r,y,e,h=>PJ (MO k) h
section
variable{s:CS}{e:AB}{ln co:Int}{tx:lU}{t u:T1}{x:Er}
theorem HW(h:Da s t u ln co=.error x):x.2.2≠0:=by
 unfold Da at h
 split at h
 · rename_i D;cases h;exact MO _ D
 · cases h
theorem Lp(h:Ds s t ln co=.error x):x.2.2≠0:=by
 unfold Ds at h
 split at h
 · cases h;first|exact cO|exact e4
 · cases h
theorem RY{v:Bool}(h:DG s e tx t v ln co=.error x):x.2.2≠0:=by
 unfold DG at h
 repeat' split at h
 · rename_i D;cases h;exact Lp D
 · cases h
 · cases h
theorem Yj{k:Nat}(h:Gk s tx k ln co=.error x):x.2.2≠0:=by
 unfold Gk at h
 repeat' split at h
 all_goals (cases h;try exact cO)
theorem nR(h:El s e tx ln co=.error x):x.2.2≠0:=by
 unfold El at h
 repeat' split at h
 · cases h;first|exact cO|exact e4
 · rename_i D;cases h;exact Lp D
 · cases h
end
def EcF(p:Hq):Prop:=∀{s e op ln co tx nm k x},p s e op ln co tx nm k=.error x→x.2.2≠0
def EcP(p:Jq):Prop:=∀{s e op ln co tx nm k x},p s e op ln co tx nm k=.error x→x.2.2≠0
section
variable{p:Hq}(hp:EcF p)
include hp
theorem R8{e:AB}:∀(k:Nd){s:CS}{x:Er},CA p e s k=.error x→x.2.2≠0
 |.nil,_,_,h=>by cases h
 |.cons op ln co tx nm k r,s,x,h=>by
   unfold CA at h
   split at h
   · rename_i D;cases h;exact hp D
   · split at h
     · rename_i F;cases h;exact R8 r F
     · cases h
theorem XI{e:AB}:∀(k:Nd){s:CS}{l:Ty}{x:Er},Dt p e s l k=.error x→x.2.2≠0
 |.nil,_,_,_,h=>by cases h
 |.cons op ln co tx nm k r,s,l,x,h=>by
   unfold Dt at h
   split at h
   · rename_i D;cases h;exact hp D
   · split at h
     · rename_i F;cases h;exact HW F
     · exact XI r h
theorem aB{e:AB}:∀(k:Nd){s:CS}{t:T1}{x:Er},EU p e s t k=.error x→x.2.2≠0
 |.nil,_,_,_,h=>by cases h
 |.cons op ln co tx nm k r,s,t,x,h=>by
   unfold EU at h
   split at h
   · rename_i D;cases h;exact hp D
   · split at h
     · rename_i F;cases h;exact HW F
     · exact aB r h
variable {k:Nd}
theorem gB{s:CS}{e:AB}{ln co o l c m:Int}{tx x:lU}{y:Er}(h:EG p s e ln co tx o l c x m k=.error y):y.2.2≠0:=by
 unfold EG at h
 split at h
 · rename_i D;cases h;exact hp D
 · split at h
   · rename_i F;cases h;exact HW F
   · cases h
omit hp
variable{q:Jq}(hq:EcP q)
include hq
theorem Td:∀(k:Nd){s:CS}{e:AB}{l:Ty}{x:Er},Dx q s e l k=.error x→x.2.2≠0
 |.nil,_,_,_,_,h=>by cases h
 |.cons op ln co tx nm k r,s,e,l,x,h=>by
   unfold Dx at h
   split at h
   · rename_i D;cases h;exact hq D
   · split at h
     · rename_i F;cases h;exact HW F
     · exact Td r h
theorem Sz:∀(k:Nd){s:CS}{e:AB}{x:Er},CU q s e k=.error x→x.2.2≠0
 |.nil,_,_,_,h=>by cases h
 |.cons op ln co tx nm k r,s,e,x,h=>by
   unfold CU at h
   split at h
   · rename_i D;cases h;exact hq D
   · split at h
     · rename_i F;cases h;exact Sz r F
     · cases h
theorem kY{s:CS}{e:AB}{op ln co:Int}{tx:lU}{x:Er}(h:CE q s e op ln co tx k=.error x):x.2.2≠0:=by
 unfold CE at h
 repeat' (split at h)
 all_goals first
   |(cases h;done)
   |(cases h;first|exact Yj (by assumption)|exact Td hq _ (by assumption)|exact Sz hq _ (by assumption))
omit hq
theorem cZ:∀n,EcP (BM n)
 |0=>λh=>by cases h;first|exact cO|exact e4
 |n+1=>λh=>by
   unfold BM at h
   split at h
   · rename_i D;cases h;exact kY (cZ n) D
   · split at h
     · rename_i D;cases h;exact Lp D
     · cases h
include hp
theorem Np{e:AB}{pt:T1}:∀(k:Nd){s:CS}{t:Option T1}{x:Er},BY n p e pt s t k=.error x→x.2.2≠0
 |.nil,_,_,_,h=>by unfold BY at h;cases h
 |.cons _ _ _ _ _ F r,s,t,x,h=>by
   unfold BY at h
   split at h
   · split at h
     · rename_i D;cases h;exact cZ _ D
     · split at h
       · rename_i D;cases h;exact HW D
       · split at h
         · rename_i D;cases h;exact hp D
         · split at h
           · split at h
             · rename_i D;cases h;exact HW D
             · exact Np r h
           · exact Np r h
   · cases h
theorem jF{s:CS}{e:AB}{op ln co:Int}{tx:lU}{x:Er}(h:AQ n p s e op ln co tx k=.error x):x.2.2≠0:=by
 unfold AQ at h
 by_cases U:(op==1)=true
 · rw[if_pos U] at h
   cases h
 rw[if_neg U] at h
 by_cases W:(op==2)=true
 · rw[if_pos W] at h
   cases h
 rw[if_neg W] at h
 by_cases Y:(op==3)=true
 · rw[if_pos Y] at h
   cases h
 rw[if_neg Y] at h
 by_cases Z:(op==4)=true
 · rw[if_pos Z] at h
   cases h
 rw[if_neg Z] at h
 by_cases o5:(op==5)=true
 · rw[if_pos o5] at h
   exact nR h
 rw[if_neg o5] at h
 by_cases o6:(op==6)=true
 · rw[if_pos o6] at h
   split at h
   · rename_i D;cases h;exact Yj D
   split at h
   · rename_i D;cases h;exact XI hp _ D
   cases h
 rw[if_neg o6] at h
 by_cases o7:(op==7)=true
 · rw[if_pos o7] at h
   split at h
   · cases h
   simp only at h
   split at h
   · rename_i D;cases h;exact hp D
   cases h
 rw[if_neg o7] at h
 by_cases o8:(op==8)=true
 · rw[if_pos o8] at h
   split at h
   · cases h
   split at h
   · rename_i D;cases h;exact hp D
   exact aB hp _ h
 rw[if_neg o8] at h
 by_cases o9:(op==9)=true
 · rw[if_pos o9] at h
   split at h
   · split at h
     · rename_i D;cases h;exact hp D
     split at h
     · rename_i D
       cases h
       split at D
       · cases D
       · exact RY D
     exact hp h
   · cases h
 rw[if_neg o9] at h
 by_cases F:(op==10)=true
 · rw[if_pos F] at h
   split at h
   · split at h
     · rename_i D;cases h;exact gB hp D
     split at h
     · rename_i D;cases h;exact RY D
     exact hp h
   · cases h
 rw[if_neg F] at h
 by_cases G:(op==11)=true
 · rw[if_pos G] at h
   split at h
   · split at h
     · rename_i D;cases h;exact hp D
     split at h
     · rename_i D;cases h;exact HW D
     split at h
     · rename_i D;cases h;exact hp D
     split at h
     · rename_i D;cases h;exact hp D
     split at h
     · rename_i D;cases h;exact HW D
     cases h
   · cases h
 rw[if_neg G] at h
 by_cases J:(op==12)=true
 · rw[if_pos J] at h
   split at h
   · rename_i D;cases h;exact R8 hp _ D
   cases h
 rw[if_neg J] at h
 by_cases K:(op==13)=true
 · rw[if_pos K] at h
   split at h
   · rename_i D;cases h;exact R8 hp _ D
   cases h
 rw[if_neg K] at h
 by_cases L:(op==14)=true
 · rw[if_pos L] at h
   split at h
   · cases h
   split at h
   · rename_i D;cases h;exact hp D
   exact Np hp _ h
 rw[if_neg L] at h
 by_cases O:(op==15)=true
 · rw[if_pos O] at h
   split at h
   · cases h
   split at h
   · rename_i D;cases h;exact hp D
   exact Np hp _ h
 rw[if_neg O] at h
 by_cases Q:(op==16)=true
 · rw[if_pos Q] at h
   split at h
   · cases h
   split at h
   · rename_i D;cases h;exact hp D
   split at h
   · rename_i D;cases h;exact HW D
   cases h
 rw[if_neg Q] at h
 split at h
 · cases h
 exact hp h
omit hp
theorem V6:∀n,EcF (AJ n)
 |0=>λh=>by cases h;first|exact cO|exact e4
 |n+1=>λh=>by
   unfold AJ at h
   split at h
   · rename_i D;cases h;exact jF (V6 n) D
   · split at h
     · rename_i D;cases h;exact Lp D
     · cases h
end
theorem RD{d:List (lU×Int)}{v:List (lU×T1)}:∀(k:Nd){x:Er},G3 d v k=.error x→x.2.2≠0
 |.nil,_,h=>by cases h
 |.cons op ln co tx nm k r,x,h=>by
   have F:=λ{x:Er}=>RD (d:=d) (v:=v) k (x:=x);have G:=λ{x:Er}=>RD (d:=d) (v:=v) r (x:=x);rw[Kv] at h
   split at h
   · rename_i D
     cases h
     unfold Dd at D
     split at D
     · split at D
       · cases D
       · cases D;exact cO
     · split at D
       · split at D
         · rename_i J;cases D;exact F J
         · cases D
       · cases D;exact cO
   · split at h
     · rename_i J;cases h;exact G J
     · cases h
theorem Pr{ln co:Int}:∀(k:Nd){v:Int}{m:List (lU×T1)}{self:Ty}{D:List Int}{x:Er},EC ln co k v m self D=.error x→x.2.2≠0
 |.nil,_,_,_,_,_,h=>by cases h
 |.cons op _ _ tx _ _ r,v,m,self,D,x,h=>by
   unfold EC at h
   repeat' (split at h)
   · cases h;first|exact cO|exact e4
   · exact Pr r h
   · exact Pr r h
theorem Oy{d:List (lU×Int)}{m:List (lU×T1)}{out:T1}{D:List Int}:∀(k:Nd){c:List (lU×Mk)}{x:Er},DV d m out D k c=.error x→x.2.2≠0
 |.nil,_,_,h=>by cases h
 |.cons op ln co tx _ kids r,c,x,h=>by
   unfold DV at h
   repeat' (split at h)
   · cases h;first|exact cO|exact e4
   · rename_i F;cases h;exact RD _ F
   · exact Oy r h
   · exact Oy r h
variable {k:Nd}
theorem jX{s:CS}{ln co:Int}{tx:lU}{x:Er}(h:HM s ln co tx k=.error x):x.2.2≠0:=by
 unfold HM at h
 split at h
 · cases h;first|exact cO|exact e4
 · split at h
   · rename_i D;cases h;exact Pr _ D
   · simp only at h
     split at h
     · rename_i D;cases h;exact Oy _ D
     · cases h
theorem rJ{s:CS}{e:AB}{op ln co:Int}{tx:lU}{x:Er}(h:DT s e op ln co tx k=.error x):x.2.2≠0:=by
 unfold DT at h
 repeat' (split at h)
 all_goals first
   |(cases h;done)
   |(cases h;first|exact cO|exact jX (by assumption)|exact RD _ (by assumption)|exact V6 _ (by assumption)|exact HW (by assumption)|exact gB (V6 _) (by assumption)|exact RY (by assumption))
theorem RW:∀(k:Nd){s:CS}{e:AB}{out:List (lU×T1)}{x:Er},EA s e k out=.error x→x.2.2≠0
 |.nil,_,_,_,_,h=>by cases h
 |.cons op ln co tx nm k r,s,e,out,x,h=>by
   unfold EA at h
   split at h
   · rename_i D;cases h;exact rJ D
   · exact RW r h
   · exact RW r h
theorem dY{s:CS}:∀{l:List (lU×T1)}{x:Er},Jn s l=.error x→x.2.2≠0
 | [],_,h=>by cases h
 |(n,t)::l,x,h=>by
   unfold Jn at h
   split at h
   · rename_i D;cases h;exact Lp D
   · split at h
     · rename_i D;cases h;exact dY D
     · cases h
theorem iE{x:Er}(h:CY k=.error x):x.2.2≠0:=by
 unfold CY at h
 split at h
 · rename_i D;cases h;exact RW k D
 · exact dY h
end Go.SP
namespace Go.Proofs.YtgdndhedjlmagaaGreatDoor
open Go.SW Go.SP Go.RowKit Go.Proofs.Tryz
abbrev RB:=RI (List (lU×lU))
def CV(src:lU):RB:=bif (CM src).2.2.2==0 then CY (CM src).1 else .error ((CM src).2.1,(CM src).2.2.1,(CM src).2.2.2)
def xH:RB→Int×Int×Int
 |.error e=>e
 |.ok _=>(0,0,0)
def pX:RB→List (lU×lU)
 |.error _=>[]
 |.ok l=>l
abbrev inV(r:RB)(x:oA×Nat):Value:=.tuple #[.slice x.1 (pX r).length x.2,.agg #[.int .i64 (xH r).1,.int .i64 (xH r).2.1],.int .i64 (xH r).2.2]
def InV(r:RB)(w:wO)(f:Fq):Value→wO→Prop:=Ce (α:=oA×Nat) (inV r) (λ_=>True) (λx=>[λw f=>Nu w f (pX r) x.1 x.2]) w f
variable {f:Fq}{a:oA}{w w':wO}{src:lU}
theorem Zc.out{nds:Nd}{v:Value}(h:Zc nds w f v w'):InV (CY nds) w f v w':=by
 obtain⟨f',D,h⟩:=h
 cases F:CY nds with
 |error er =>
   rw[F] at h;exact⟨(none,0),f',h,tQ,D,⟨Nat.zero_le _,.inl C⟩,tQ⟩
 |ok K =>
   rw[F] at h;obtain⟨a,c,G,J⟩:=h;exact⟨(a,c),f',G,tQ,D,J,tQ⟩
theorem bV(w:wO)(f:Fq)(K:Vl w f)(L:FD w f)(nds:Nd)(D:oA)(nc:Nat)(F:nds.wft)(G:nds.size≤200000)(J:nds.txb)(O:Ba w f nds D nc) :
   BF prog 12 #[.slice D nds.len nc] w (InV (CY nds) w f):=(W9 w f K L nds D nc F G J O).mono λ_ _ h=>Zc.out h
theorem Mf(src:lU):WfN (CM src).1:=nJ 200 src
theorem Ob(h:(CM src).2.2.2=0):CV src=CY (CM src).1:=by unfold CV;rw[h];rfl
theorem Px(h:(CM src).2.2.2≠0):CV src=.error ((CM src).2.1,(CM src).2.2.1,(CM src).2.2.2):=by
 unfold CV;rw[show ((CM src).2.2.2==0)=false by simpa using h];rfl
def iJ:lU:=[40,100,101,102,32,105,100,32,40,102,110,32,40,120,41,32,120,41,41,32,40,100,101,102,32,114,32,40,114,101,102,32,49,41,41]
def dM:lU:=[40,100,111,32,40,43,32,49,32,34,97,34,41,41]
def tZ:List (lU×lU):=[([105,100],[40,45,62,32,39,97,32,39,97,41]),([114],[40,114,101,102,32,105,110,116,41])]
set_option maxRecDepth 100000 in
theorem wG:CV iJ=.ok tZ:=kR
set_option maxRecDepth 100000 in
theorem uB:CV dM=.error (1,10,11):=kR
theorem len_app:∀(a b:Nd),(a.app b).len=a.len+b.len
 |.nil,b=>(Nat.zero_add _).symm
 |.cons _ _ _ _ _ _ r,b=>by show (r.app b).len+1=r.len+1+b.len;rw[len_app r b];omega
theorem Nu.opn{l:List (lU×lU)}{c:Nat}(h:Nu w f l a c)(D:l≠[]):∃x:Nat×Nat,a=some ⟨x.1,x.2,none⟩∧Cs w f x.1 x.2 (bC l) :=
 h.2.elim (λh=>absurd h D) λ⟨b,off,F,G⟩=>⟨(b,off),F,G⟩
end Go.Proofs.YtgdndhedjlmagaaGreatDoor
namespace Go.Proofs.YtgdndhedjlmagaaGreatDoor
open Go.SW Go.SP Go.RowKit Go.Lib
section
variable{P:Program}{w:World}
theorem Rm{g:Nat}{t:TypeId}{k:IntKind}{zero:Array Value}(h:w.ShapedOpen P)(Q:g<P.globals.size)
   (U:((begin P (λ_ _=>0) default).world.heap[g]?).bind Obj.row?=some (zero,t)) (hz:zero.size=1)
   (W:P.buildable t=true) (Y:P.cellTypes P.depth t=some [t]) (hu:P.underlying t=some (.int k)):∃m,w.cell? ⟨g,0,none⟩=some (.int k m):=by
 obtain⟨cs,Z,hs,hr⟩:=h.1 g zero t Q U;obtain⟨ts,G,_,J⟩:=hr W;rw[Y] at G
 cases G
 have L:0<cs.size:=oM;obtain⟨u,K,D⟩:=J 0 cs[0] (by simp[L]);have:u=t:=by simpa using K.symm
 subst this;have F:w.cell? ⟨g,0,none⟩=some cs[0]:=by simp[World.cell?,Z,L]
 rw[F];unfold Cell.ok at D;rw[hu] at D
 cases O:cs[0] with
 |int k' m =>
   rw[O] at D
   have hk:k'=k:=by
     simp at D;exact D.1
   exact⟨m,by rw[hk]⟩
 |_=>rw[O] at D;simp at D
theorem JQ{n:String}{g:Nat}{cs:Array Value}(h:P.globalNamed n=some g)(D:w.var? P n=some cs)(o:Nat):w.cell? ⟨g,o,none⟩=cs.toList[o]?:=by
 rw[World.var?_cell h D o,Array.getElem?_toList]
theorem UN{n:String}{g:Nat}{t:TypeId}{b:Bool}(G:P.globalNamed n=some g)(J:(P.globals[g]?).map (·.type)=some t)(K:P.underlying t=some .bool)(h:VarReads P w n (.lit (.bool b))):w.cell? ⟨g,0,none⟩=some (.bool b):=by
 obtain⟨U,t',cs,fuel,p,L,F,D,hd⟩:=h;obtain rfl:=Option.some.inj (G.symm.trans L);obtain rfl:=Option.some.inj (J.symm.trans F);obtain⟨b',O,Q⟩:=DataW.trod_bool K hd;rw[JQ G D,O]
 cases Q
 rfl
theorem TC{n:String}{g:Nat}{t:TypeId}{ms}{d:DataW Unit}(G:P.globalNamed n=some g)(J:(P.globals[g]?).map (·.type)=some t)(K:P.underlying t=some (.interface ms))(h:VarReads P w n d) :
   ∃v,w.cell? ⟨g,0,none⟩=some v∧(v=.nilIface∨∃te pe,v=.iface te pe):=by
 obtain⟨Q,t',cs,fuel,p,L,F,D,hd⟩:=h;obtain rfl:=Option.some.inj (G.symm.trans L);obtain rfl:=Option.some.inj (J.symm.trans F);rw[JQ G D]
 cases fuel with
 |zero=>simp[DataW.trod] at hd
 |succ fuel =>
   unfold DataW.trod at hd;rw[K] at hd;generalize cs.toList=l at hd
   split at hd
   all_goals first
     |(rename_i heq;cases heq;done)
     |(rename_i O U;cases O;done)
     |(exact⟨_,rfl,.inl rfl⟩)
     |(exact⟨_,rfl,.inr ⟨_,_,rfl⟩⟩)
     |cases hd
theorem Vt{n:String}{g:Nat}{t:TypeId}{fs:Array Field}{f:Field}{k:IntKind}{z:Int}{ds:List (DataW Unit)}(W:P.globalNamed n=some g)(Y:(P.globals[g]?).map (·.type)=some t)(Z:P.underlying t=some (.struct fs))
   (hf:fs[0]?=some f) (J:f.offset=0) (K:P.underlying f.type=some (.int k)) (L:P.cellsOf f.type=1) (h:VarReads P w n (.agg (.lit (.int k z)::ds))):w.cell? ⟨g,0,none⟩=some (.int k z):=by
 obtain⟨g',t',cs,fuel,p,hg,O,D,hd⟩:=h;obtain rfl:=Option.some.inj (W.symm.trans hg);obtain rfl:=Option.some.inj (Y.symm.trans O);obtain⟨xs,m,rfl,hx,hl,hxl,F⟩:=DataW.trod_struct Z hd;have h0:=F 0 f hf;have e0:xs.map (·.1)=.lit (.int k z)::ds:=by have:=congrArg Prod.fst hx;simpa using this.symm
 cases xs with
 |nil=>cases e0
 |cons x xs =>
   simp only[List.map_cons,List.cons.injEq] at e0;obtain⟨z',hz,Q,_⟩:=DataW.trod_int K (h0.trans (by rfl));rw[JQ W D]
   have U:z'=z:=by
     have:=Q▸e0.1;simpa using this
   subst U;rw[J,L,List.drop_zero] at hz
   cases G:cs.toList with
   |nil=>rw[G] at hz;cases hz
   |cons c r=>rw[G] at hz;simp at hz;simp[hz]
variable {e:TypeId}
theorem S2{n:String}{g:Nat}{t:TypeId}{l:List (DataW Unit)}{c:Nat}{m:Int}(U:P.globalNamed n=some g)(Z:(P.globals[g]?).map (·.type)=some t)(ht:P.underlying t=some (.array 256 e))(he:P.underlying e=some (.int .u8))(J:P.cellsOf e=1)
   (h:VarReads P w n (.agg l)) (hc:c<256) (W:l[c]?=some (.lit (.int .u8 m))):w.cell? ⟨g,c,none⟩=some (.int .u8 m):=by
 obtain⟨g',t',cs,fuel,p,hg,K,D,hd⟩:=h;obtain rfl:=Option.some.inj (U.symm.trans hg);obtain rfl:=Option.some.inj (Z.symm.trans K);obtain⟨xs,k,rfl,hx,hcl,hxl,F⟩:=DataW.trod_array ht hd;have e0:xs.map (·.1)=l:=by have:=congrArg Prod.fst hx;simpa using this.symm
 have L:=F c hc;rw[J,Nat.mul_one] at L;have G:xs[c]?=some (xs[c]'oM):=List.getElem?_eq_getElem oM;rw[G] at L;obtain⟨z,hz,O,_⟩:=DataW.trod_int he L;have e1:l[c]?=some ((xs[c]'oM).1):=by rw[← e0,List.getElem?_map,G];rfl
 rw[e1,O] at W;have Q:z=m:=by simpa using W
 subst Q;rw[JQ U D];have Y:((cs.toList.drop c).take 1)[0]?=some (.int .u8 z):=by rw[hz];rfl
 rw[List.getElem?_take] at Y;simpa using Y
theorem R5{n:String}{g:Nat}{t:TypeId}{k:FloatKind}{l:List Nat}(hn:P.globalNamed n=some g)(hy:(P.globals[g]?).map (·.type)=some t)(ht:P.underlying t=some (.slice e))(he:P.underlying e=some (.float k))(hc:P.cellsOf e=1)
   (hl:0<l.length) (h:VarReads P w n (.slice (l.map λx=>.lit (.float k x)) [])):∃b off len cap,w.cell? ⟨g,0,none⟩=some (.slice (some ⟨b,off,none⟩) len cap)∧l.length≤len∧∀(j v:Nat),l[j]?=some v→w.cell? ⟨b,off+j,none⟩=some (.float k v):=by
 obtain⟨g',t',cs,fuel,p,hg,Q,J,hd⟩:=h;obtain rfl:=Option.some.inj (hn.symm.trans hg);obtain rfl:=Option.some.inj (hy.symm.trans Q);rcases DataW.trod_slice ht hd with ⟨_,U⟩|⟨a,len,cap,el,rs,m,rfl,W,U,_,hlc,_,hel,G,hsp,_⟩
 · cases U
 have e0:=congrArg Prod.fst U;simp only[DataW.slice.injEq] at e0;have hlen:len=l.length:=by have:=congrArg List.length e0.1;simp at this;omega
 have D:∀(j v:Nat),l[j]?=some v→w.cell? (a.add j)=some (.float k v):=by
   intro j v O;obtain⟨hj,hjv⟩:=List.getElem?_eq_some_iff.1 O;have Y:=G j oM;rw[hc,Nat.mul_one] at Y;obtain⟨b,hb⟩:∃b,el[j]?=some b:=⟨el[j]'oM,List.getElem?_eq_getElem oM⟩;rw[hb] at Y;obtain⟨ce,Z,F⟩:=Option.bind_eq_some_iff.1 Y
   have hb1:b.1=.lit (.float k v):=by
     have:=congrArg (·[j]?) e0.1;simp[hb,O] at this;exact this.symm
   have K:ce=[.float k v]:=by
     cases m with
     |zero=>simp[DataW.trod] at F
     |succ m =>
       unfold DataW.trod at F;rw[he] at F
       split at F <;> simp_all
       obtain⟨⟨rfl,_⟩,rfl⟩:=F;simpa using hb1
   obtain⟨_,_,hcc⟩:=World.cells?_some Z;have h0:=hcc 0 oM;rw[K] at h0;have e1:(a.add j).add 0=a.add j:=by simp[Addr.add]
   rw[e1] at h0;exact h0
 obtain⟨R,o,sR⟩:=a
 obtain rfl:sR=none:=by
   obtain⟨v0,hv0⟩:∃v,l[0]?=some v:=⟨l[0],List.getElem?_eq_getElem hl⟩;have L:=D 0 v0 hv0;have:(Addr.add ⟨R,o,sR⟩ 0)=⟨R,o,sR⟩:=by simp[Addr.add]
   rw[this] at L;exact Go.Proofs.cell_spot L
 refine⟨R,o,len,cap,?_,oM,λj v O=>?_⟩
 · rw[JQ hn J,W];rfl
 · have:=D j v O
   rwa[EO] at this
end
end Go.Proofs.YtgdndhedjlmagaaGreatDoor
namespace Go.SW
open Go.RowKit
def oV(w:wO):Fq:=λb=>match w.heap[b]? with
 |some (.cells cs _ _)=>cs.size
 |_=>0
theorem sX(w:wO):Vl w (oV w):=λb h=>by
 unfold oV;rw[Array.getElem?_eq_none h]
variable {b o:Nat}{w:wO}
theorem NT{v:Value}(h:w.cell? ⟨b,o,none⟩=some v):o<oV w b:=by
 unfold oV;unfold World.cell? at h
 cases D:w.heap[b]? with
 |none=>rw[D] at h;cases h
 |some x =>
   rw[D] at h
   cases x with
   |cells c e fr=>simpa using (Array.getElem?_eq_some_iff.1 h).1
   |_=>cases h
end Go.SW
namespace Go.Proofs.YtgdndhedjlmagaaGreatDoor
open Go.SW Go.SP Go.RowKit Go.Lib Go.ChangeShapes Go.WideShapes Go.ChangeAt
theorem own:ownKnob Tryz.prog.godebug=none:=kR
def UQ:List Nat:=[4607182418800017408,4621819117588971520,4636737291354636288,4652007308841189376,4666723172467343360,4681608360884174848,4696837146684686336,4711630319722168320,4726483295884279808,4741671816366391296,4756540486875873280,4771362005757984768,4786511204640096256,4801453603149578240,4816244402031689728,4831355200913801216,4846369599423283200,4861130398305394688,4876203697187506176,4891288408196988160,4906019910204099648,4921056587992461136,4936209963552724370]
variable {args:Array Value}{fid:FuncId}{j:Nat}{W:World}
theorem Yw{v:Nat}(h:G5[j]?=some v):UQ[j]?=some v:=by
 have e:G5=UQ.take 15:=rfl;rw[e,List.getElem?_take] at h
 split at h
 · exact h
 · cases h
abbrev Yg:List (String×DataW Unit):=Rows.inferWrapsRow.laid
theorem Lx(k:Nat){n:String}{d:DataW Unit}(h:laidMet Tryz.prog Yg W)(D:Yg[k]?=some (n,d):=by rfl):VarReads Tryz.prog W n d:=laidMet.reads h (List.mem_of_getElem? D)
theorem uI:(Rows.laid_strings_asciiSpace:DataW Unit)=.agg ((List.range 256).map λc=>.lit (.int .u8 (if Lib.isSp (UInt8.ofNat c) then 1 else 0))):=kR
theorem zY(h:laidMetH Tryz.prog Yg W)(G:W.ShapedOpen Tryz.prog):Gl W∧∀c:Nat,c<256→W.cell? ⟨0,c,none⟩=some (.int .u8 (if Lib.isSp (UInt8.ofNat c) then 1 else 0)):=by
 rw[MakeChecks.laidMetH_plain _ _ _ (by kernel_rfl)] at h;refine⟨⟨?_,?_,?_,?_,?_⟩,?_⟩
 · exact Rm (t:=3) (zero:=#[.int .i64 0]) G (of_decide_eq_true kR) kR kR kR kR Tryz.underlying3
 · obtain⟨ms,hm⟩:=I3 (show gC Tryz.prog 158=true by kernel_rfl)
   exact TC (t:=158) kR kR hm (Lx 10 h)
 · exact UN (t:=4) kR kR Tryz.underlying4 (Lx 4 h)
 · exact Vt (t:=266) kR kR (fs:=Tryz.prog.fieldsOf 266) kR (f:=(Tryz.prog.fieldsOf 266)[0]!) kR kR kR kR
     (Lx 3 h)
 · obtain⟨b,off,n,c,J,K,L⟩:=R5 (l:=UQ) kR kR (t:=300) (e:=163) kR kR kR dC (Lx 6 h)
   exact⟨b,off,n,c,J,Nat.le_trans dC K,λj v O=>L j v (Yw O)⟩
 · intro c D
   have F:=Lx 13 h;rw[uI] at F;exact S2 (t:=168) (e:=5) kR kR kR kR kR F D (by rw[List.getElem?_map,List.getElem?_range D];rfl)
theorem oP(h:laidMetH Tryz.prog Yg W)(J:W.ShapedOpen Tryz.prog):D3 W (oV W)∧FD W (oV W):=by
 obtain⟨⟨⟨m,hm⟩,⟨v,K,L⟩,O,Q,⟨b,off,n,c,U,Y,Z⟩⟩,D⟩:=zY h J;refine⟨λw' f' hF=>?_,⟨m,λj v F=>?_⟩,λc G=>⟨NT (D c G),D c G⟩⟩
 · have k:∀{b o:Nat}{v:Value},W.cell? ⟨b,o,none⟩=some v→w'.cell? ⟨b,o,none⟩=some v:=λ{b o v} h=>((hF b).2 o (NT h)).trans h
   exact⟨⟨m,k hm⟩,⟨v,k K,L⟩,k O,k Q,⟨b,off,n,c,k U,Y,λj v hv=>k (Z j v hv)⟩⟩
 · cases j with
   |zero=>cases F;exact⟨NT hm,hm⟩
   |succ j=>cases F
theorem cQ(h:BF Tryz.prog fid args W (Ce (α:=Unit) (λ_=>.bool true) (λ_=>True) (λ_=>[]) W (oV W))):BF Tryz.prog fid args W λv w'=>v=.bool true∧AY W w' :=
 h.mono λ_ _ ⟨_,_,D,_,F,_⟩=>⟨D,F.stp.ext⟩
end Go.Proofs.YtgdndhedjlmagaaGreatDoor
namespace Go.Proofs.YtgdndhedjlmagaaGreatDoor
open Go.SW Go.SP Go.RowKit Go.Proofs.Tryz
theorem KW(w:wO)(f:Fq)(F:Vl w f)(G:D3 w f)(J:FD w f)(src:lU) :
   BF prog 6 #[S src] w (InV (CV src) w f):=by
 refine Df (X:=X0 w f) (H:=[]) (R:=[]) (B:=[]) (Fs:=[λw f=>D3 w f,λw f=>FD w f]) (f:=f) func6 C C C (CC F ⟨G,J,tQ⟩ ⟨D3.mono,FD.mono,tQ⟩)<|Aa 10 [] (λb1=>λ_=>BA C C (eC oK C C) (λw f h=>S8 w f h.vl h.f0 src) (λ_=>⟨Ba.mono,tQ⟩) ?_);rintro⟨K,nc⟩ -;dsimp only;refine Aa 17 [0] (λb2=>y<|λ_=>Bb 15 C C (λD=>?_) (λD=>?_));refine Aa 2 [] (λ_=>Dh [0] Aq (rd [0,1,2] (.br 3 (.rd 4 .fin) .fin)) C kR<|A9 3 [0] (y<|λ_=>Ah C ?_ Aj));exact Aa 2 [1] (y<|λ_=>Az [0] C<|A9 1 [] (λ_=>Bx<|Aa 3 [] (λ_=>Bc (λw f h=>EB C (Al C) (Ae C Ho h.k1 C) (Al C)) (λw f h=>(by rw[Px (by simpa using D)];exact⟨(none,0),f,C,tQ,h.exm,⟨Nat.zero_le _,.inl C⟩,tQ⟩)))));refine Aa 6 [] (λ_=>BA C C (eC rU C C) (λw f h=>bV w f h.vl h.f2 _ K nc (Mf src).wft (Mf src).size (Mf src).txb h.f0) (λ_=>⟨Nu.mono,tQ⟩) ?_);rintro⟨a,c⟩ -;exact Aa 9 [1] (y<|λ_=>Bc (λw f h=>EB C (Al C) (Ae C Ho h.k1 C) (Al C)) (λw f h=>(by rw[Ob (by simpa using D)];exact⟨(a,c),f,C,tQ,h.exm,h.f0,tQ⟩)))
theorem Sx(w:wO)(f:Fq)(D:Vl w f)(F:D3 w f)(G:FD w f):BF prog 6 #[S iJ] w (Ce (α:=oA×Nat) (λx=>.tuple #[.slice x.1 2 x.2,.agg #[iV 0,iV 0],iV 0]) (λ_=>True) (λx=>[λw f=>Nu w f tZ x.1 x.2]) w f):=by
 have h:=KW w f D F G iJ;rw[wG] at h;exact h
theorem TO(w:wO)(f:Fq)(D:Vl w f)(F:D3 w f)(G:FD w f):BF prog 6 #[S dM] w (Ce (α:=oA×Nat) (λx=>.tuple #[.slice x.1 0 x.2,.agg #[iV 1,iV 10],iV 11]) (λ_=>True) (λx=>[λw f=>Nu w f ([]:List (lU×lU)) x.1 x.2]) w f):=by
 have h:=KW w f D F G dM;rw[uB] at h;exact h
theorem HJ(w:wO)(f:Fq)(D:Vl w f)(F:D3 w f)(G:FD w f) :
   BF prog 4 #[] w (Ce (α:=Unit) (λ_=>.bool true) (λ_=>True) (λ_=>[]) w f):=by
 refine Df (X:=X0 w f) (H:=[]) (R:=[]) (B:=[]) (Fs:=[λw f=>D3 w f,λw f=>FD w f]) (f:=f) func4 C C C (CC D ⟨F,G,tQ⟩ ⟨D3.mono,FD.mono,tQ⟩)<|Aa 7 [] (λ_=>BA C C (eC Xa C C) (λw f h=>Sx w f h.vl h.f0 h.f1) (λ_=>⟨Nu.mono,tQ⟩) ?_);rintro⟨J,O⟩ -;refine Nq (α:=Nat×Nat) (λx=>J=some ⟨x.1,x.2,none⟩) (λx=>[⟨x.1,x.2,bC tZ⟩]) (λx=>[]) (λw f h=>let ⟨x,K,L⟩:=Nu.opn h.f0 (List.cons_ne_nil _ _);⟨x,K,oE L,nE⟩) (λx=>A2.mem tQ) ?_;rintro⟨Q,U⟩ rfl;refine Aa 12 [0] (λb1=>y<|λ_=>BA C C (eC Xa C C) (λw f h=>TO w f h.vl h.f1 h.f2) (λ_=>⟨Nu.mono,tQ⟩) ?_);rintro⟨W,dc⟩ -;exact Aa 40 [0,100,1,100,3,0] (λb2=>y<|aI dC<|y2<|aI dC<|y2<|y<|λ_=>FJ C C (λw f h=>eM tR C C)<|Aa 5 [] (λ_=>Bc (DE C C) (λw f h=>⟨(),f,C,tQ,h.exm,tQ⟩)))
end Go.Proofs.YtgdndhedjlmagaaGreatDoor
namespace Go.SP
open Go.SW Go.RowKit
theorem IM{b:Bk}:∀{j k:Nat}{x:Ty},By b j x=true→j≤k→By b k x=true
 |j,k,.nil,_,_=>by cases k <;> rfl
 |0,_,.var _ _,h,_=>by cases h
 |0,_,.con _ _ _,h,_=>by cases h
 |j+1,0,.var _ _,_,D=>by omega
 |j+1,0,.con _ _ _,_,D=>by omega
 |j+1,k+1,.var n r,h,D=>by
   simp only[By] at h ⊢
   cases F:Af b (.var n) with
   |var q=>rw[F] at h;exact IM h oM
   |con tx G=>rw[F] at h;exact IM h oM
 |j+1,k+1,.con tx G r,h,D=>by
   simp only[By] at h ⊢;exact IM h oM
theorem Lb{b:Bk}{k:Nat}{a r:Ty}(h:By b k (a.app r)=true):By b k r=true:=by
 rw[DA,HL] at h
 cases D:B9 b k a with
 |none=>rw[D] at h;cases h
 |some j =>
   rw[D] at h;have F:=EH b k a j D;have G:By b j r=true:=by rw[DA];exact h
   exact IM G F
theorem I5{b:Bk}(hw:Lz b){n:Int}{t:T1}(D:A8 b n=none)(h:Af b t=t)(F:BB b n 1000 t.one=true):Lz ((n,t)::b):=by
 refine⟨D,λm hm=>?_,hw⟩;subst hm;refine⟨λe=>?_,DK hw h⟩;have:=I4 b n 999 (.var m);rw[F,h,e] at this;simp[W8] at this
theorem Kt{b:Bk}{n m:Int}{t:T1}(h:m≠n):A8 ((n,t)::b) m=A8 b m:=by
 simp only[A8];rw[if_neg (by simpa using λe=>h e.symm)]
def rO(n:Int)(t:T1):T1→T1
 |.var m=>if m=n then t else .var m
 |.con tx k=>.con tx k
theorem Uc(n:Int)(t:T1):rO n t (.var n)=t:=if_pos C
theorem QR{n m:Int}(t:T1)(h:m≠n):rO n t (.var m)=.var m:=if_neg h
theorem YM{b:Bk}{n:Int}{t:T1}(hw:Lz b)(h:Lz ((n,t)::b))(Q:Af b t=t):∀(k:Nat)(u:T1),Ei b u≤k→Af ((n,t)::b) u=rO n t (Af b u):=by
 have J:=h.1
 have F:Af ((n,t)::b) t=t:=by
   cases t with
   |con tx G=>rfl
   |var m =>
     obtain⟨K,L⟩:=h.2.1 m C;exact AK (by rw[Kt K];exact L)
 intro k
 induction k with
 |zero =>
   intro u hu
   cases u with
   |con tx G=>rfl
   |var m =>
     cases D:A8 b m with
     |some t2=>have:=F8 hw D;omega
     |none =>
       rw[AK D]
       by_cases e:m=n
       · subst e
         rw[Uc,BH h (t:=t) (by simp[A8]),F]
       · rw[QR t e,AK (by rw[Kt e];exact D)]
 |succ k O =>
   intro u hu
   cases u with
   |con tx G=>rfl
   |var m =>
     cases D:A8 b m with
     |some t2 =>
       have U:=F8 hw D;have e:m≠n:=λe=>by rw[e,J] at D;cases D
       rw[BH hw D,BH h (t:=t2) (by rw[Kt e];exact D)];exact O t2 oM
     |none =>
       rw[AK D]
       by_cases e:m=n
       · subst e
         rw[Uc,BH h (t:=t) (by simp[A8]),F]
       · rw[QR t e,AK (by rw[Kt e];exact D)]
def SR(b b':Bk):Prop:=Lz b→Lz b'∧∀k x,By b' k x=true→By b k x=true
theorem SR.refl(b:Bk):SR b b:=λh=>⟨h,λ_ _ h=>h⟩
theorem SR.trans{a b c:Bk}(D:SR a b)(F:SR b c):SR a c:=λh=>⟨(F (D h).1).1,λk x G=>(D h).2 k x ((F (D h).1).2 k x G)⟩
def E0(d n:Int):Int:=if 0<n then n+d else n
theorem kJ{d:Int}(hd:0≤d){a b:Int}(h:E0 d a=E0 d b):a=b:=by unfold E0 at h;split at h <;> split at h <;> omega
theorem LA{d:Int}(hd:0≤d)(a b:Int):(E0 d a==E0 d b)=(a==b):=by
 by_cases e:a=b
 · subst e;simp
 · rw[beq_eq_false_iff_ne.2 e,beq_eq_false_iff_ne.2 (λh=>e (kJ hd h))]
theorem Sg{d:Int}(hd:0≤d)(l:List Int)(n:Int):(l.map (E0 d)).contains (E0 d n)=l.contains n:=by
 induction l with
 |nil=>rfl
 |cons a l D=>simp only[List.map_cons,List.contains_cons,D,LA hd]
def Ty.sh(d:Int):Ty→Ty
 |.nil=>.nil
 |.var n r=>.var (E0 d n) (r.sh d)
 |.con tx k r=>.con tx (k.sh d) (r.sh d)
def T1.sh(d:Int):T1→T1
 |.var n=>.var (E0 d n)
 |.con tx k=>.con tx (k.sh d)
section
variable{d:Int}
theorem Kg(t:T1)(r:Ty):(t.cons r).sh d=(t.sh d).cons (r.sh d):=by cases t <;> rfl
theorem DX(t:T1):t.one.sh d=(t.sh d).one:=by cases t <;> rfl
theorem Hn:∀x y:Ty,(x.app y).sh d=(x.sh d).app (y.sh d)
 |.nil,_=>rfl
 |.var _ r,y=>by simp only[Ty.app,Ty.sh,Hn r y]
 |.con _ _ r,y=>by simp only[Ty.app,Ty.sh,Hn r y]
theorem Ke:∀x:Ty,(x.sh d).len=x.len
 |.nil=>rfl
 |.var _ r=>by simp only[Ty.sh,Ty.len,Ke r]
 |.con _ _ r=>by simp only[Ty.sh,Ty.len,Ke r]
theorem Wb:∀(x:Ty)(i:Nat),(x.sh d).get i=(x.get i).map (T1.sh d)
 |.nil,_=>rfl
 |.var _ _,0=>rfl
 |.con _ _ _,0=>rfl
 |.var _ r,i+1=>Wb r i
 |.con _ _ r,i+1=>Wb r i
theorem PQ(x:Ty):(x.sh d).hd=x.hd.sh d:=by cases x <;> rfl
theorem WV(x:Ty):(x.sh d).tl=x.tl.sh d:=by cases x <;> rfl
theorem LN:∀x:Ty,(x.sh d).last=x.last.sh d
 |.nil=>rfl
 |.var _ .nil=>rfl
 |.con _ _ .nil=>rfl
 |.var _ (.var m r)=>LN (.var m r)
 |.var _ (.con t k r)=>LN (.con t k r)
 |.con _ _ (.var m r)=>LN (.var m r)
 |.con _ _ (.con t k r)=>LN (.con t k r)
theorem NL:∀x:Ty,Gf (x.sh d)=(Gf x).sh d
 |.nil=>rfl
 |.var _ .nil=>rfl
 |.con _ _ .nil=>rfl
 |.var n (.var m r)=>by have:=NL (.var m r);simp only[Ty.sh] at this ⊢;simp only[Gf,this,T1.sh,Ty.sh,DX]
 |.var n (.con t k r)=>by have:=NL (.con t k r);simp only[Ty.sh] at this ⊢;simp only[Gf,this,T1.sh,Ty.sh,DX]
 |.con t k (.var m r)=>by have:=NL (.var m r);simp only[Ty.sh] at this ⊢;simp only[Gf,this,T1.sh,Ty.sh,DX]
 |.con t k (.con t2 k2 r)=>by have:=NL (.con t2 k2 r);simp only[Ty.sh] at this ⊢;simp only[Gf,this,T1.sh,Ty.sh,DX]
end
structure FI(d:Int)(b0 b b':Bk):Prop where
 eq:b'=b.map (λp=>(E0 d p.1,p.2.sh d))++b0
 lo:∀n,A8 b0 (E0 d n)=none
 w:Lz b
 w':Lz b'
section
variable{d:Int}(hd:0≤d){b0:Bk}
include hd
theorem OO(n:Int)(D:A8 b0 (E0 d n)=none):∀b:Bk,A8 (b.map (λp=>(E0 d p.1,p.2.sh d))++b0) (E0 d n)=(A8 b n).map (T1.sh d)
 | []=>D
 |(k,t)::b=>by
   simp only[List.map_cons,List.cons_append,A8,LA hd]
   split
   · rfl
   · exact OO n D b
variable{b b':Bk}(h:FI d b0 b b')
include h
theorem FI.look(n:Int):A8 b' (E0 d n)=(A8 b n).map (T1.sh d):=by rw[h.eq];exact OO hd n (h.lo n) b
theorem FI.headK:∀(k:Nat)(t:T1),Ei b t≤k→Af b' (t.sh d)=(Af b t).sh d:=by
 intro k
 induction k with
 |zero =>
   intro t F
   cases t with
   |con tx G=>rfl
   |var n =>
     cases D:A8 b n with
     |some t2=>have:=F8 h.w D;omega
     |none=>rw[AK D];exact AK (by rw[h.look hd,D];rfl)
 |succ k J =>
   intro t F
   cases t with
   |con tx G=>rfl
   |var n =>
     cases D:A8 b n with
     |some t2 =>
       have K:=F8 h.w D;rw[BH h.w D,← J t2 (by omega)];exact BH h.w' (by rw[h.look hd,D];rfl)
     |none=>rw[AK D];exact AK (by rw[h.look hd,D];rfl)
theorem FI.head(t:T1):Af b' (t.sh d)=(Af b t).sh d:=h.headK hd _ t (Nat.le_refl _)
theorem FI.headv(n:Int):Af b' (.var (E0 d n))=(Af b (.var n)).sh d:=h.head hd (.var n)
theorem FI.small:∀(k:Nat)(x:Ty),By b' k (x.sh d)=By b k x
 |k,.nil=>by cases k <;> rfl
 |0,.var _ _=>rfl
 |0,.con _ _ _=>rfl
 |k+1,.con tx D r=>by simp only[Ty.sh,By,← Hn];exact FI.small k _
 |k+1,.var n r=>by
   simp only[Ty.sh,By,h.headv hd]
   cases Af b (.var n) with
   |var m=>exact FI.small k r
   |con tx D=>simp only[T1.sh,← Hn];exact FI.small k _
theorem FI.free(x:Int):∀(k:Nat)(y:Ty),BB b' (E0 d x) k (y.sh d)=BB b x k y
 |k,.nil=>by cases k <;> rfl
 |0,.var _ _=>rfl
 |0,.con _ _ _=>rfl
 |k+1,.con tx D r=>by simp only[Ty.sh,BB,← Hn];exact FI.free x k _
 |k+1,.var n r=>by
   simp only[Ty.sh,BB,h.headv hd]
   cases Af b (.var n) with
   |var m=>simp only[T1.sh,LA hd,FI.free x k r]
   |con tx D=>simp only[T1.sh,← Hn];exact FI.free x k _
theorem FI.full:∀(k:Nat)(x:Ty),AE b' k (x.sh d)=(AE b k x).sh d
 |k,.nil=>by cases k <;> rfl
 |0,.var _ _=>rfl
 |0,.con _ _ _=>rfl
 |k+1,.con tx D r=>by simp only[Ty.sh,AE,FI.full k]
 |k+1,.var n r=>by
   simp only[Ty.sh,AE,h.headv hd]
   cases Af b (.var n) with
   |var m=>simp only[T1.sh,Ty.sh,FI.full k r]
   |con tx D=>simp only[T1.sh,Ty.sh,FI.full k]
theorem FI.fullS(t:T1):fullS b' (t.sh d)=(fullS b t).map (T1.sh d):=by
 unfold Go.SP.fullS D0;rw[← DX,h.small hd,h.full hd,PQ]
 split <;> rfl
theorem FI.bind{n:Int}{t:T1}{b2:Bk}(K:A8 b n=none)(L:Af b t=t)(D:BG b n t=.ok b2):∃F,BG b' (E0 d n) (t.sh d)=.ok F∧FI d b0 b2 F:=by
 unfold BG at D
 split at D
 · rename_i Q
   split at D
   · rename_i O
     cases D
     have J:D0 b' (t.sh d)=true:=by unfold D0;rw[← DX,h.small hd];exact Q
     have G:BB b' (E0 d n) 1000 (t.sh d).one=true:=by rw[← DX,h.free hd];exact O
     exact⟨(E0 d n,t.sh d)::b',by unfold BG;rw[if_pos J,if_pos G],by rw[h.eq];rfl,h.lo,I5 h.w K L O,I5 h.w' (by rw[h.look hd,K];rfl) (by rw[h.head hd,L]) G⟩
   · cases D
 · cases D
end
section
variable{d:Int}(hd:0≤d){b0:Bk}
include hd
theorem Pv{f:Bk→Ty→Ty→Except Int Bk}(F:∀ {b b' b2 x y},FI d b0 b b'→f b x y=.ok b2→∃D,f b' (x.sh d) (y.sh d)=.ok D∧FI d b0 b2 D){b b' b2:Bk}(h:FI d b0 b b'){x y:T1}{r q:Ty}
   (L:Af b x=x) (O:Af b y=y) (hu:BV f b x y r q=.ok b2):∃D,BV f b' (x.sh d) (y.sh d) (r.sh d) (q.sh d)=.ok D∧FI d b0 b2 D:=by
 cases x with
 |var n =>
   cases y with
   |var m =>
     simp only[BV,T1.sh,LA hd] at hu ⊢
     split at hu
     · rename_i e;rw[if_pos e];exact F h hu
     · rename_i e
       rw[if_neg e]
       split at hu
       · cases hu
       · rename_i b1 G
         obtain⟨J,e1,K⟩:=h.bind hd (DK h.w L) O G;simp only[T1.sh] at e1;rw[e1];exact F K hu
   |con ty Q =>
     simp only[BV,T1.sh] at hu ⊢
     split at hu
     · cases hu
     · rename_i b1 G
       obtain⟨J,e1,K⟩:=h.bind hd (DK h.w L) O G;simp only[T1.sh] at e1;rw[e1];exact F K hu
 |con tx ka =>
   cases y with
   |var m =>
     simp only[BV,T1.sh] at hu ⊢
     split at hu
     · cases hu
     · rename_i b1 G
       obtain⟨J,e1,K⟩:=h.bind hd (DK h.w O) L G;simp only[T1.sh] at e1;rw[e1];exact F K hu
   |con ty Q =>
     simp only[BV,T1.sh] at hu ⊢;rw[Ke,Ke]
     split at hu
     · cases hu
     · rename_i e
       rw[if_neg e,← Hn,← Hn];exact F h hu
theorem KM:∀(k:Nat){b b' b2:Bk}{x y:Ty},FI d b0 b b'→Bz k b x y=.ok b2→∃D,Bz k b' (x.sh d) (y.sh d)=.ok D∧FI d b0 b2 D
 |k,b,b',b2,.nil,y,h,hu=>by
   have e1:Bz k b .nil y=.ok b:=by cases k <;> rfl
   have J:Bz k b' .nil (y.sh d)=.ok b':=by cases k <;> rfl
   rw[e1] at hu;cases hu;exact⟨b',J,h⟩
 |0,_,_,_,.var _ _,_,_,hu=>by cases hu
 |0,_,_,_,.con _ _ _,_,_,hu=>by cases hu
 |k+1,b,b',b2,.var n r,y,h,hu=>by
   simp only[Bz,Ty.sh] at hu ⊢;rw[h.headv hd,PQ,h.head hd,WV];exact Pv hd (λF G=>KM k F G) h (Hi h.w _) (Hi h.w _) hu
 |k+1,b,b',b2,.con tx ka r,y,h,hu=>by
   simp only[Bz,Ty.sh] at hu ⊢;rw[PQ,h.head hd,WV];exact Pv hd (λF G=>KM k F G) (x:=.con tx ka) h C (Hi h.w _) hu
theorem Nz:∀(x:Ty)(l:List Int),BZ (x.sh d) (l.map (E0 d))=(BZ x l).map (E0 d)
 |.nil,_=>rfl
 |.var n r,l=>by
   simp only[Ty.sh,BZ,Sg hd];rw[show (if l.contains n=true then l.map (E0 d) else l.map (E0 d)++[E0 d n])=(if l.contains n=true then l else l++[n]).map (E0 d) by split <;> simp];exact Nz r _
 |.con _ k r,l=>by simp only[Ty.sh,BZ,Nz k,Nz r]
theorem LB(t:T1):Ak (t.sh d)=(Ak t).map (E0 d):=by unfold Ak;rw[← DX];exact Nz hd _ []
theorem Sk(n:Int):∀l:List Int,C1 (l.map (E0 d)) (E0 d n)=C1 l n
 | []=>rfl
 |k::l=>by simp only[List.map_cons,C1,LA hd,Sk n l]
theorem JV(l:List Int)(y:Ty):∀x:Ty,C2 (l.map (E0 d)) (y.sh d) (x.sh d)=(C2 l y x).sh d
 |.nil=>rfl
 |.con tx k r=>by simp only[Ty.sh,C2,JV l y k,JV l y r]
 |.var n r=>by
   simp only[Ty.sh,C2,Sk hd]
   have e:(C1 l n).bind (y.sh d).get=((C1 l n).bind y.get).map (T1.sh d):=by
     cases C1 l n with
     |none=>rfl
     |some i=>exact Wb y i
   rw[e]
   cases (C1 l n).bind y.get with
   |none=>simp only[Option.map_none,Ty.sh,JV l y r]
   |some t=>simp only[Option.map_some,Kg,JV l y r]
theorem UA(t:T1)(l:List Int)(y:Ty):Cf (t.sh d) (l.map (E0 d)) (y.sh d)=(Cf t l y).sh d:=by unfold Cf;rw[← DX,JV hd,PQ]
omit hd in
theorem Ib(p D:Int→Bool)(F:∀v,D (E0 d v)=p v):∀l:List Int,(l.map (E0 d)).filter D=(l.filter p).map (E0 d)
 | []=>rfl
 |a::l=>by
   simp only[List.map_cons,List.filter_cons,F]
   split
   · simp only[List.map_cons,Ib p D F l]
   · exact Ib p D F l
theorem IX(vs:List Int):∀x:Ty,C4 (vs.map (E0 d)) (x.sh d)=C4 vs x
 |.nil=>rfl
 |.var n r=>by simp only[Ty.sh,C4,Sk hd,IX vs r]
 |.con tx .nil r=>by simp only[Ty.sh,C4,IX vs r]
 |.con tx (.var n k) r=>by
   have:=IX vs (.var n k);simp only[Ty.sh] at this ⊢;simp only[C4,Sk hd,IX vs r] at this ⊢;rw[this]
 |.con tx (.con t2 k2 k) r=>by
   have:=IX vs (.con t2 k2 k);simp only[Ty.sh] at this ⊢;simp only[C4,IX vs r];rw[this]
theorem Ta(t:T1):De (t.sh d)=De t:=by unfold De;rw[LB hd,← DX,IX hd]
end
def Ty.on(p:Int→Bool):Ty→Bool
 |.nil=>true
 |.var n r=>p n&&r.on p
 |.con _ k r=>k.on p&&r.on p
abbrev iU:Int→Bool:=λn=>decide (n≤0)
theorem fQ{d n:Int}(h:n≤0):E0 d n=n:=if_neg oM
theorem TP{d:Int}:∀x:Ty,x.on iU=true→x.sh d=x
 |.nil,_=>rfl
 |.var n r,h=>by
   simp only[Ty.on,Bool.and_eq_true,decide_eq_true_eq] at h;simp only[Ty.sh,fQ h.1,TP r h.2]
 |.con _ k r,h=>by
   simp only[Ty.on,Bool.and_eq_true] at h;simp only[Ty.sh,TP k h.1,TP r h.2]
theorem bD{d:Int}{t:T1}(h:t.one.on iU=true):t.sh d=t:=by
 cases t with
 |var n =>
   simp only[T1.one,T1.cons,Ty.on,Bool.and_true,decide_eq_true_eq] at h;simp only[T1.sh,fQ h]
 |con tx k =>
   simp only[T1.one,T1.cons,Ty.on,Bool.and_true] at h;simp only[T1.sh,TP k h]
theorem QM{d:Int}:∀l:List Int,l.all iU=true→l.map (E0 d)=l
 | [],_=>rfl
 |n::l,h=>by
   simp only[List.all_cons,Bool.and_eq_true,decide_eq_true_eq] at h;simp only[List.map_cons,fQ h.1,QM l h.2]
def Bd.sh(d:Int)(b:Bd):Bd:=⟨b.name,b.t.sh d,b.all.map (E0 d)⟩
theorem XN{d:Int}:B5.map (Bd.sh d)=B5:=by
 have h:B5.all (λb=>b.t.one.on iU&&b.all.all iU)=true:=dC
 have:∀l:AB,l.all (λb=>b.t.one.on iU&&b.all.all iU)=true→l.map (Bd.sh d)=l:=by
   intro l
   induction l with
   |nil=>intro _;rfl
   |cons b l D =>
     intro h;simp only[List.all_cons,Bool.and_eq_true] at h;simp only[List.map_cons,D h.2,Bd.sh,bD h.1.1,QM _ h.1.2]
 exact this _ h
def Mk.lo(m:Mk):Bool:=m.args.on iU&&m.out.one.on iU&&m.vars.all iU
theorem Mc:iF.all (λp=>p.2.lo)=true:=dC
theorem ME{α:Type}{p:lU×α→Bool}{n:lU}{v:α}:∀{l:List (lU×α)},l.all p=true→Cb l n=some v→∃k,p (k,v)=true
 |(k,u)::l,h,D=>by
   simp only[List.all_cons,Bool.and_eq_true] at h;unfold Cb at D
   split at D
   · cases D;exact⟨k,h.1⟩
   · exact ME h.2 D
structure Di(d:Int)(b0:Bk)(s s':CS):Prop where
 sol:FI d b0 s.sol s'.sol
 fr:s'.fresh=s.fresh+d
 f0:0≤s.fresh
 cons:s'.cons=s.cons
 datas:s'.datas=s.datas
 roots:s'.roots=s.roots
 vars:s'.vars=s.vars
 lo:s.cons.all (λp=>p.2.lo)=true
 v0:s.vars≤0
def kA(d:Int)(b0:Bk)(ex:AB):Prop:=∀b,b∈ex→b.t.one.on (λv=>decide (0<v)&&decide (v≤d)&&(A8 b0 v).isNone&&b.all.contains v)=true
def FE(d:Int)(ex e e':AB):Prop:=∃l,e=l++B5∧e'=l.map (Bd.sh d)++(ex++B5)
abbrev VO(ex:AB):List lU:=ex.map (·.name)
theorem FE.cons{d:Int}{ex e e':AB}(h:FE d ex e e')(b:Bd):FE d ex (b::e) (b.sh d::e'):=let ⟨l,D,F⟩:=h;⟨b::l,by rw[D];rfl,by rw[F];rfl⟩
theorem Ka(s:CS):∀a b:AB,AT s (a++b)=AT s a++AT s b
 | [],_=>rfl
 |x::a,b=>by simp only[List.cons_append,AT,Ka s a b,List.append_assoc]
theorem Vb{b:Bk}{k:Nat}{a r:Ty}(h:By b k (a.app r)=true):By b k a=true:=by
 rw[DA,HL] at h;rw[DA]
 cases D:B9 b k a with
 |none=>rw[D] at h;cases h
 |some j=>rfl
theorem Mh{b:Bk}:∀(k:Nat)(x:Ty),x.on (λv=>(A8 b v).isNone)=true→By b k x=true→AE b k x=x
 |k,.nil,_,_=>by cases k <;> rfl
 |0,.var _ _,_,h=>by cases h
 |0,.con _ _ _,_,h=>by cases h
 |k+1,.var n r,D,h=>by
   simp only[Ty.on,Bool.and_eq_true,Option.isNone_iff_eq_none] at D;simp only[By,AK D.1] at h;simp only[AE,AK D.1,Mh k r D.2 h]
 |k+1,.con tx F r,D,h=>by
   simp only[Ty.on,Bool.and_eq_true] at D;simp only[By] at h;simp only[AE,Mh k F D.1 (Vb h),Mh k r D.2 (Lb h)]
theorem EY{p q:Int→Bool}(h:∀n,p n=true→q n=true):∀x:Ty,x.on p=true→x.on q=true
 |.nil,_=>rfl
 |.var n r,D=>by simp only[Ty.on,Bool.and_eq_true] at D ⊢;exact⟨h n D.1,EY h r D.2⟩
 |.con _ k r,D=>by simp only[Ty.on,Bool.and_eq_true] at D ⊢;exact⟨EY h k D.1,EY h r D.2⟩
theorem Kq{p:Int→Bool}:∀(x:Ty)(l:List Int),x.on p=true→l.all p=true→(BZ x l).all p=true
 |.nil,_,_,h=>h
 |.var n r,l,D,h=>by
   simp only[Ty.on,Bool.and_eq_true] at D;refine Kq r _ D.2 ?_
   split
   · exact h
   · simp[List.all_append,D.1,h]
 |.con _ k r,l,D,h=>by
   simp only[Ty.on,Bool.and_eq_true] at D;exact Kq r _ D.2 (Kq k _ D.1 h)
section
variable{d:Int}(hd:0≤d){b0:Bk}{ex:AB}(hex:kA d b0 ex){s s':CS}{e e':AB}
include hd
omit hd in
theorem lH{b b':Bk}(h:FI d b0 b b'){v:Int}(G:0<v)(J:v≤d)(D:A8 b0 v=none):A8 b' v=none:=by
 rw[h.eq]
 have:∀b:Bk,A8 (b.map (λp=>(E0 d p.1,p.2.sh d))++b0) v=none:=by
   intro b
   induction b with
   |nil=>exact D
   |cons p b F =>
     simp only[List.map_cons,List.cons_append,A8];rw[if_neg (by simp only[beq_iff_eq];intro e;unfold E0 at e;split at e <;> omega)];exact F
 exact this b
include hex
omit hd in
theorem aJ(h:Di d b0 s s'):AT s' ex=[]:=by
 have:∀l:AB,(∀b,b∈l→b∈ex)→AT s' l=[]:=by
   intro l
   induction l with
   |nil=>intro _;rfl
   |cons b l K =>
     intro G;have J:=hex b (G b (.head _));simp only[AT,K (λx L=>G x (.tail _ L)),List.append_nil];unfold Go.SP.fullS
     split
     · rfl
     · rename_i f F
       split at F
       · rename_i O
         cases F
         have Q:b.t.one.on (λv=>(A8 s'.sol v).isNone)=true:=EY (λn D=>by
           simp only[Bool.and_eq_true,decide_eq_true_eq,Option.isNone_iff_eq_none] at D ⊢;exact lH h.sol D.1.1.1 D.1.1.2 D.1.2) _ J
         rw[Mh _ _ Q O,show b.t.one.hd=b.t by cases b.t <;> rfl];have U:(Ak b.t).all (λv=>b.all.contains v)=true:=Kq _ _ (EY (λn D=>by simp only[Bool.and_eq_true] at D;exact D.2) _ J) C;rw[List.filter_eq_nil_iff];intro v W;rw[List.all_eq_true.1 U v W];decide
       · cases F
 exact this ex λ_ h=>h
omit hex
theorem Mq(h:Di d b0 s s'):∀l:AB,AT s' (l.map (Bd.sh d))=(AT s l).map (E0 d)
 | []=>rfl
 |b::l=>by
   simp only[List.map_cons,AT,Mq h l,List.map_append]
   congr 1
   show (match fullS s'.sol (b.t.sh d) with|none=>[]|some f=>(Ak f).filter λv=>!(b.all.map (E0 d)).contains v)=_;rw[h.sol.fullS hd]
   cases fullS s.sol b.t with
   |none=>rfl
   |some f =>
     simp only[Option.map_some,LB hd];exact Ib _ _ (λv=>by rw[Sg hd]) _
include hex
theorem Zy(h:Di d b0 s s')(he:FE d ex e e'):AT s' e'=(AT s e).map (E0 d):=by
 obtain⟨l,D,F⟩:=he;rw[D,F,Ka,Ka,Ka,aJ hex h,Mq hd h,List.nil_append,List.map_append]
 congr 1
 have:=Mq hd h B5;rwa[XN] at this
omit hex
omit hd in
theorem gK(he:FE d ex e e'){tx:lU}(G:(VO ex).contains tx=false):Ed e' tx=(Ed e tx).map (Bd.sh d):=by
 obtain⟨l,J,K⟩:=he
 have L:∀l r:AB,(VO l).contains tx=false→Ed (l++r) tx=Ed r tx:=by
   intro l r
   induction l with
   |nil=>intro _;rfl
   |cons b l D =>
     intro h;rw[VO,List.map_cons,List.contains_cons,Bool.or_eq_false_iff] at h;simp only[List.cons_append,Ed];rw[if_neg (by rw[beq_iff_eq];intro e;rw[e] at h;simp at h)];exact D h.2
 have hm:∀l:AB,Ed (l.map (Bd.sh d)) tx=(Ed l tx).map (Bd.sh d):=by
   intro l
   induction l with
   |nil=>rfl
   |cons b l D =>
     simp only[List.map_cons,Ed];show (if b.name==tx then _ else _)=_
     split
     · rfl
     · exact D
 have O:∀(l r F:AB),Ed F tx=(Ed r tx).map (Bd.sh d)→Ed (l.map (Bd.sh d)++F) tx=(Ed (l++r) tx).map (Bd.sh d):=by
   intro l r F h
   induction l with
   |nil=>exact h
   |cons b l D =>
     simp only[List.map_cons,List.cons_append,Ed];show (if b.name==tx then _ else _)=_
     split
     · rfl
     · exact D
 rw[J,K];refine O l B5 _ ?_;rw[L ex B5 G];have:=hm B5;rwa[XN] at this
omit hd in
theorem GY(h:Di d b0 s s'):(Au s').1=(Au s).1.sh d∧Di d b0 (Au s).2 (Au s').2:=by
 have D:=h.f0;refine⟨?_,{h with fr:=?_,f0:=?_}⟩
 · show T1.var (s'.fresh+1)=T1.var (E0 d (s.fresh+1))
   rw[h.fr];unfold E0;rw[if_pos (by omega)];congr 1;omega
 · show s'.fresh+1=s.fresh+1+d
   rw[h.fr];omega
 · show 0≤s.fresh+1
   omega
variable {e1:AB}{s1:CS}{co co' ln ln':Int}
theorem GM(h:Di d b0 s s'){a b:T1}(G:Da s a b ln co=.ok s1):∃D,Da s' (a.sh d) (b.sh d) ln' co'=.ok D∧Di d b0 s1 D:=by
 obtain⟨m,hm,rfl⟩:=Rz G;obtain⟨J,F,K⟩:=KM hd 10000 h.sol hm;rw[DX,DX] at F;exact⟨{s' with sol:=J },by unfold Da DY;rw[F],{h with sol:=K}⟩
theorem LR(h:Di d b0 s s'){t f:T1}(D:Ds s t ln co=.ok f):Ds s' (t.sh d) ln' co'=.ok (f.sh d):=by
 unfold Ds at D ⊢;rw[h.sol.fullS hd]
 split at D
 · cases D
 · rename_i f' F
   cases D
   rw[F];rfl
include hex
theorem Ul(h:Di d b0 s s')(he:FE d ex e e'){tx:lU}{t:T1}{v:Bool}(D:DG s e tx t v ln co=.ok e1):∃F,DG s' e' tx (t.sh d) v ln' co'=.ok F∧FE d ex e1 F:=by
 unfold DG at D ⊢
 split at D
 · rename_i G
   rw[if_pos G]
   split at D
   · cases D
   · rename_i f J
     cases D
     rw[LR hd h (ln':=ln') (co':=co') J];refine⟨_,C,?_⟩;have:=he.cons ⟨tx,f,(Ak f).filter λv=>!(AT s e).contains v⟩;rwa[Bd.sh,← Ib (λv=>!(AT s e).contains v) (λv=>!(AT s' e').contains v) (λv=>by rw[Zy hd hex h he,Sg hd]),← LB hd] at this
 · rename_i G
   rw[if_neg G]
   cases D
   exact⟨_,C,he.cons ⟨tx,t,[]⟩⟩
omit hex
omit hd in
theorem Pj:∀(l l':List Int){s s':CS},Di d b0 s s'→l'.length=l.length→(AL l' s').1=(AL l s).1.sh d∧Di d b0 (AL l s).2 (AL l' s').2
 | [],[],_,_,h,_=>⟨C,h⟩
 | [],_::_,_,_,_,D=>by simp at D
 |_::_,[],_,_,_,D=>by simp at D
 |_::l,_::l',s,s',h,D=>by
   obtain⟨F,G⟩:=GY h;obtain⟨J,K⟩:=Pj l l' G (by simpa using D);exact⟨by simp only[AL,F,J,Kg],K⟩
theorem Th(h:Di d b0 s s'){tx:lU}{k:Nat}{a:Ty}{o:T1}(F:Gk s tx k ln co=.ok (a,o,s1)):∃G,Gk s' tx k ln' co'=.ok (a.sh d,o.sh d,G)∧Di d b0 s1 G:=by
 unfold Gk at F ⊢;rw[h.cons]
 split at F
 · cases F
 · rename_i m hm
   split at F
   · rename_i L
     cases F
     obtain⟨_,D⟩:=ME h.lo hm;simp only[Mk.lo,Bool.and_eq_true] at D;obtain⟨J,O⟩:=Pj m.vars m.vars h C;rw[if_pos L];refine⟨_,?_,O⟩;have e1:=JV hd m.vars (AL m.vars s).1 m.args;have K:=UA hd m.out m.vars (AL m.vars s).1;rw[QM _ D.2,TP _ D.1.1,← J] at e1;rw[QM _ D.2,bD D.1.2,← J] at K;rw[e1,K]
   · cases F
theorem cN(h:Di d b0 s s')(he:FE d ex e e'){tx:lU}(J:(VO ex).contains tx=false){t:T1}(F:El s e tx ln co=.ok (t,s1)):∃D,El s' e' tx ln' co'=.ok (t.sh d,D)∧Di d b0 s1 D:=by
 unfold El at F ⊢;rw[gK he J]
 split at F
 · cases F
 · rename_i b K
   rw[K];simp only[Option.map_some]
   split at F
   · cases F
   · rename_i f L
     have G:=LR hd h (ln':=ln') (co':=co') L;rw[show (Bd.sh d b).t=b.t.sh d from C,G]
     cases F
     have e1:((Ak (f.sh d)).filter λv=>(b.all.map (E0 d)).contains v)=((Ak f).filter λv=>b.all.contains v).map (E0 d):=by
       rw[LB hd];exact Ib _ _ (λv=>by rw[Sg hd]) _
     simp only;show ∃D,Except.ok (Cf (f.sh d) ((Ak (f.sh d)).filter λv=>(b.all.map (E0 d)).contains v) (AL ((Ak (f.sh d)).filter λv=>(b.all.map (E0 d)).contains v) s').1,(AL ((Ak (f.sh d)).filter λv=>(b.all.map (E0 d)).contains v) s').2)=_∧_;rw[e1];obtain⟨O,Q⟩:=Pj ((Ak f).filter λv=>b.all.contains v) (((Ak f).filter λv=>b.all.contains v).map (E0 d)) h (by simp);exact⟨_,by rw[O,UA hd],Q⟩
end
theorem B6{D:Nd}(h:Nd.nil.er=D.er):D=.nil:=by cases D with|nil=>rfl|cons _ _ _ _ _ _ _=>cases h
variable {co ln:Int}
theorem er_cons{op nm:Int}{tx:lU}{k r G:Nd}(h:(Nd.cons op ln co tx nm k r).er=G.er):∃ln' co' D F,G=.cons op ln' co' tx nm D F∧k.er=D.er∧r.er=F.er:=by
 cases G with
 |nil=>cases h
 |cons J ln' co' K L D F =>
   simp only[Nd.er,Nd.cons.injEq] at h;obtain⟨rfl,_,_,rfl,rfl,O,Q⟩:=h;exact⟨ln',co',D,F,C,O,Q⟩
theorem er_len{k D:Nd}(h:k.er=D.er):D.len=k.len:=by
 have:∀k:Nd,k.er.len=k.len:=by
   intro k
   induction k with
   |nil=>rfl
   |cons _ _ _ _ _ _ _ _ F=>simp only[Nd.er,Nd.len,F]
 rw[← this k,← this D,h]
theorem nQ{k D:Nd}(h:k.er=D.er):D.size=k.size:=by
 have:∀k:Nd,k.er.size=k.size:=by
   intro k
   induction k with
   |nil=>rfl
   |cons _ _ _ _ _ _ _ F G=>simp only[Nd.er,Nd.size,F,G]
 rw[← this k,← this D,h]
theorem To:∀(n:Nat)(op:Int)(k D:Nd),k.er=D.er→Br n op D=Br n op k
 |0,_,_,_,_=>rfl
 |n+1,op,k,D,h=>by
   have:∀k D:Nd,k.er=D.er→Me (Br n) D=Me (Br n) k:=by
     intro k
     induction k with
     |nil=>intro D h;rw[B6 h]
     |cons op ln co tx nm k r _ F =>
       intro D h;obtain⟨_,_,G,J,rfl,K,L⟩:=er_cons h;simp only[Me,To n op k G K,F J L]
   simp only[Br,this k D h]
def Nd.fre(xs:List lU):Nd→Bool
 |.nil=>true
 |.cons op _ _ tx _ k r=>(!(op==5)||!xs.contains tx)&&k.fre xs&&r.fre xs
section
variable{d:Int}(hd:0≤d){b0:Bk}{ex:AB}(hex:kA d b0 ex)
def rB(d:Int)(b0:Bk)(ex:AB)(p p':Hq):Prop:=∀⦃s s':CS⦄⦃e e':AB⦄⦃op ln co ln' co' nm:Int⦄⦃tx:lU⦄⦃k k':Nd⦄⦃t:T1⦄⦃s1:CS⦄,Di d b0 s s'→FE d ex e e'→k.er=k'.er→k.fre (VO ex)=true→(op==5&&(VO ex).contains tx)=false →
 p s e op ln co tx nm k=.ok (t,s1)→∃h,p' s' e' op ln' co' tx nm k'=.ok (t.sh d,h)∧Di d b0 s1 h
def SimP(d:Int)(b0:Bk)(ex:AB)(p p':Jq):Prop:=∀⦃s s':CS⦄⦃e e':AB⦄⦃op ln co ln' co' nm:Int⦄⦃tx:lU⦄⦃k k':Nd⦄⦃t:T1⦄⦃e1:AB⦄⦃s1:CS⦄,Di d b0 s s'→FE d ex e e'→k.er=k'.er →
 p s e op ln co tx nm k=.ok (t,e1,s1)→∃h D,p' s' e' op ln' co' tx nm k'=.ok (t.sh d,h,D)∧FE d ex e1 h∧Di d b0 s1 D
variable {e' e1:AB}{s s' s1:CS}{co' ln':Int}{n:Nat}{k k' r:Nd}
theorem Cl{xs:List lU}{op nm:Int}{tx:lU}(h:(Nd.cons op ln co tx nm k r).fre xs=true):(op==5&&xs.contains tx)=false∧k.fre xs=true∧r.fre xs=true:=by
 simp only[Nd.fre,Bool.and_eq_true] at h;refine⟨?_,h.1.2,h.2⟩;have:=h.1.1
 cases D:(op==5) <;> cases F:xs.contains tx <;> simp_all
variable{p p':Hq}(hp:rB d b0 ex p p')
include hp
theorem OP:∀(k k':Nd){s s':CS}{e e':AB}{l:Ty}{s1:CS},Di d b0 s s'→FE d ex e e'→k.er=k'.er→k.fre (VO ex)=true→CA p e s k=.ok (l,s1)→∃D,CA p' e' s' k'=.ok (l.sh d,D)∧Di d b0 s1 D
 |.nil,k',_,_,_,_,_,_,F,_,G,_,h=>by rw[B6 G];cases h;exact⟨_,C,F⟩
 |.cons op ln co tx nm k r,k',s,s',e,e',l,s1,F,he,G,O,h=>by
   obtain⟨ln',co',kk,Q,rfl,U,W⟩:=er_cons G;obtain⟨f1,f2,f3⟩:=Cl O;unfold CA at h
   split at h
   · cases h
   · rename_i Y
     split at h
     · cases h
     · rename_i Z
       cases h
       obtain⟨s2',e1,J⟩:=hp (ln':=ln') (co':=co') F he U f2 f1 Y;obtain⟨K,e2,L⟩:=OP r Q J he W f3 Z;exact⟨K,by unfold CA;rw[e1];simp only;rw[e2,Kg],L⟩
include hd
theorem SK:∀(k k':Nd){s s':CS}{e e':AB}{l:Ty}{s1:CS},Di d b0 s s'→FE d ex e e'→k.er=k'.er→k.fre (VO ex)=true→Dt p e s l k=.ok s1→∃D,Dt p' e' s' (l.sh d) k'=.ok D∧Di d b0 s1 D
 |.nil,k',_,_,_,_,_,_,F,_,G,_,h=>by rw[B6 G];cases h;exact⟨_,C,F⟩
 |.cons op ln co tx nm k r,k',s,s',e,e',l,s1,F,he,G,Q,h=>by
   obtain⟨ln',co',kk,U,rfl,W,Y⟩:=er_cons G;obtain⟨f1,f2,f3⟩:=Cl Q;unfold Dt at h
   split at h
   · cases h
   · rename_i Z
     split at h
     · cases h
     · rename_i hh
       obtain⟨s2',e1,J⟩:=hp (ln':=ln') (co':=co') F he W f2 f1 Z;obtain⟨s3',e2,K⟩:=GM hd J (ln':=ln') (co':=co') hh;obtain⟨L,e3,O⟩:=SK r U K he Y f3 h;exact⟨L,by unfold Dt;rw[e1];simp only;rw[PQ,e2];simp only;rw[WV,e3],O⟩
theorem Xe:∀(k k':Nd){s s':CS}{e e':AB}{t u:T1}{s1:CS},Di d b0 s s'→FE d ex e e'→k.er=k'.er→k.fre (VO ex)=true→EU p e s t k=.ok (u,s1)→∃D,EU p' e' s' (t.sh d) k'=.ok (u.sh d,D)∧Di d b0 s1 D
 |.nil,k',_,_,_,_,_,_,_,F,_,G,_,h=>by rw[B6 G];cases h;exact⟨_,C,F⟩
 |.cons op ln co tx nm k r,k',s,s',e,e',t,u,s1,F,he,G,U,h=>by
   obtain⟨ln',co',kk,W,rfl,Y,Z⟩:=er_cons G;obtain⟨f1,f2,f3⟩:=Cl U;unfold EU at h
   split at h
   · cases h
   · rename_i a s2 ht
     split at h
     · cases h
     · rename_i hh
       obtain⟨J,e1,K⟩:=hp (ln':=ln') (co':=co') F he Y f2 f1 ht;obtain⟨g1,g2⟩:=GY K;obtain⟨s3',e2,L⟩:=GM hd g2 (ln':=ln') (co':=co') hh;obtain⟨O,e3,Q⟩:=Xe r W L he Z f3 h;refine⟨O,?_,Q⟩;unfold EU;rw[e1];simp only;rw[show T1.con D2 ((a.sh d).cons (Au J).1.one)=(T1.con D2 (a.cons (Au s2).1.one)).sh d by rw[g1,← DX,← Kg];rfl,e2];simp only;rw[g1,e3]
theorem kW{e:AB}{o l c l' c' m:Int}{tx x:lU}{t:T1}(K:Di d b0 s s')(he:FE d ex e e')(L:k.er=k'.er)(O:k.fre (VO ex)=true)(Q:(o==5&&(VO ex).contains x)=false)(h:EG p s e ln co tx o l c x m k=.ok (t,s1)) :
   ∃D,EG p' s' e' ln' co' tx o l' c' x m k'=.ok (t.sh d,D)∧Di d b0 s1 D:=by
 unfold EG at h;obtain⟨g1,g2⟩:=GY K
 split at h
 · cases h
 · rename_i U
   split at h
   · cases h
   · rename_i W
     cases h
     obtain⟨Y,e1,F⟩:=hp (ln':=l') (co':=c') g2 (he.cons ⟨tx,(Au s).1,[]⟩) L O Q U;obtain⟨G,Z,J⟩:=GM hd F (ln':=ln') (co':=co') W;refine⟨G,?_,J⟩;unfold EG;rw[g1];rw[Bd.sh] at e1;simp only[List.map_nil] at e1;rw[e1];simp only;rw[Z]
omit hp
omit hd in
theorem Sr:∀(k k':Nd){s s':CS}{e e':AB},Di d b0 s s'→FE d ex e e'→k.er=k'.er→(CZ s' e' k').1=(CZ s e k).1.sh d∧FE d ex (CZ s e k).2.1 (CZ s' e' k').2.1∧Di d b0 (CZ s e k).2.2 (CZ s' e' k').2.2
 |.nil,k',_,_,_,_,h,he,D=>by rw[B6 D];exact⟨C,he,h⟩
 |.cons op ln co tx nm k .nil,k',_,_,_,_,h,he,D=>by
   obtain⟨ln',co',L,O,rfl,Q,F⟩:=er_cons D;rw[B6 F];exact⟨C,he,h⟩
 |.cons op ln co tx nm k (.cons o l c x m k2 r),k',s,s',e,e',h,he,D=>by
   obtain⟨ln',co',L,O,rfl,Q,F⟩:=er_cons D;obtain⟨l',c',G,J,rfl,U,W⟩:=er_cons F;obtain⟨g1,g2⟩:=GY h
   have K:FE d ex (if op==22 then ⟨tx,(Au s).1,[]⟩::e else e) (if op==22 then ⟨tx,(Au s').1,[]⟩::e' else e'):=by
     split
     · rw[g1];exact he.cons ⟨tx,(Au s).1,[]⟩
     · exact he
   obtain⟨i1,i2,i3⟩:=Sr (.cons o l c x m k2 r) (.cons o l' c' x m G J) g2 K F;exact⟨by simp only[CZ] at i1 ⊢;rw[i1,g1,Kg],i2,i3⟩
variable{q q':Jq}(hq:SimP d b0 ex q q')
include hq
theorem Qc:∀(k k':Nd){s s':CS}{e e' e1:AB}{l:Ty}{s1:CS},Di d b0 s s'→FE d ex e e'→k.er=k'.er→Dx q s e l k=.ok (e1,s1)→∃D F,Dx q' s' e' (l.sh d) k'=.ok (D,F)∧FE d ex e1 D∧Di d b0 s1 F
 |.nil,k',_,_,_,_,_,_,_,G,he,J,h=>by rw[B6 J];cases h;exact⟨_,_,C,he,G⟩
 |.cons op ln co tx nm k r,k',s,s',e,e',e1,l,s1,G,he,J,h=>by
   obtain⟨ln',co',kk,Z,rfl,h1,h2⟩:=er_cons J;unfold Dx at h
   split at h
   · cases h
   · rename_i ht
     split at h
     · cases h
     · rename_i hh
       obtain⟨e2',s2',i1,K,L⟩:=hq (ln':=ln') (co':=co') G he h1 ht;obtain⟨s3',i2,O⟩:=GM hd L (ln':=ln') (co':=co') hh;obtain⟨Q,U,i3,W,Y⟩:=Qc r Z O K h2 h;exact⟨Q,U,by unfold Dx;rw[i1];simp only;rw[PQ,i2];simp only;rw[WV,i3],W,Y⟩
omit hd
theorem Q4:∀(k k':Nd){s s':CS}{e e' e1:AB}{l:Ty}{s1:CS},Di d b0 s s'→FE d ex e e'→k.er=k'.er→CU q s e k=.ok (l,e1,s1)→∃D F,CU q' s' e' k'=.ok (l.sh d,D,F)∧FE d ex e1 D∧Di d b0 s1 F
 |.nil,k',_,_,_,_,_,_,_,G,he,J,h=>by rw[B6 J];cases h;exact⟨_,_,C,he,G⟩
 |.cons op ln co tx nm k r,k',s,s',e,e',e1,l,s1,G,he,J,h=>by
   obtain⟨ln',co',kk,Y,rfl,Z,h2⟩:=er_cons J;unfold CU at h
   split at h
   · cases h
   · rename_i ht
     split at h
     · cases h
     · rename_i hl
       cases h
       obtain⟨e2',s2',i1,K,L⟩:=hq (ln':=ln') (co':=co') G he Z ht;obtain⟨O,Q,i3,U,W⟩:=Q4 r Y L K h2 hl;exact⟨O,Q,by unfold CU;rw[i1];simp only;rw[i3,Kg],U,W⟩
include hd
theorem aV{e:AB}{op:Int}{tx:lU}{t:T1}(D:Di d b0 s s')(he:FE d ex e e')(Q:k.er=k'.er)(h:CE q s e op ln co tx k=.ok (t,e1,s1)) :
   ∃L O,CE q' s' e' op ln' co' tx k'=.ok (t.sh d,L,O)∧FE d ex e1 L∧Di d b0 s1 O:=by
 obtain⟨g1,g2⟩:=GY D;unfold CE at h ⊢
 by_cases Y:(op==21)=true
 · rw[if_pos Y] at h ⊢;cases h;exact⟨_,_,by rw[g1],he,g2⟩
 rw[if_neg Y] at h ⊢
 by_cases Z:(op==22)=true
 · rw[if_pos Z] at h ⊢;cases h;exact⟨_,_,by rw[g1];rfl,he.cons ⟨tx,(Au s).1,[]⟩,g2⟩
 rw[if_neg Z] at h ⊢
 by_cases o3:(op==23)=true
 · rw[if_pos o3] at h ⊢;cases h;exact⟨_,_,C,he,D⟩
 rw[if_neg o3] at h ⊢
 by_cases o4:(op==24)=true
 · rw[if_pos o4] at h ⊢;cases h;exact⟨_,_,C,he,D⟩
 rw[if_neg o4] at h ⊢
 by_cases o5:(op==25)=true
 · rw[if_pos o5] at h ⊢;cases h;exact⟨_,_,C,he,D⟩
 rw[if_neg o5] at h ⊢
 by_cases o6:(op==26)=true
 · rw[if_pos o6] at h ⊢
   split at h
   · cases h
   rename_i hm
   split at h
   · cases h
   rename_i U
   cases h
   obtain⟨s2',i1,W⟩:=Th hd D (ln':=ln') (co':=co') hm;obtain⟨F,G,i2,J,K⟩:=Qc hd hq k k' W he Q U;exact⟨F,G,by rw[er_len Q,i1];simp only;rw[i2],J,K⟩
 rw[if_neg o6] at h ⊢
 by_cases o7:(op==27)=true
 · rw[if_pos o7] at h ⊢
   split at h
   · cases h
   rename_i U
   cases h
   obtain⟨F,G,i2,J,K⟩:=Q4 hq k k' D he Q U;exact⟨F,G,by rw[i2];rfl,J,K⟩
 rw[if_neg o7] at h ⊢
 cases h
 exact⟨_,_,C,he,D⟩
omit hq
theorem XO:∀n,SimP d b0 ex (BM n) (BM n)
 |0=>by intro s s' e e' op ln co ln' co' nm tx k k' t e1 s1 K he L h;cases h
 |n+1=>by
   intro s s' e e' op ln co ln' co' nm tx k k' t e1 s1 K he L h;unfold BM at h
   split at h
   · cases h
   · rename_i O
     split at h
     · cases h
     · rename_i Q
       cases h
       obtain⟨F,G,i1,J,D⟩:=aV hd (XO n) K he (ln':=ln') (co':=co') L O;exact⟨F,G,by unfold BM;rw[i1];simp only;rw[LR hd D Q],J,D⟩
include hp
theorem LX{pt:T1}:∀(k k':Nd){s s':CS}{e e':AB}{t:Option T1}{u:T1}{s1:CS},Di d b0 s s'→FE d ex e e'→k.er=k'.er→k.fre (VO ex)=true→BY n p e pt s t k=.ok (u,s1)→∃K,BY n p' e' (pt.sh d) s' (t.map (T1.sh d)) k'=.ok (u.sh d,K)∧Di d b0 s1 K
 |.nil,k',_,_,_,_,t,_,_,U,_,Y,_,h=>by
   rw[B6 Y];unfold BY at h ⊢;cases h;exact⟨_,by cases t <;> rfl,U⟩
 |.cons op ln co tx nm ks r,k',s,s',e,e',t,u,s1,U,he,Y,hf,h=>by
   obtain⟨ln',co',kk,rr,rfl,h1,h2⟩:=er_cons Y;obtain⟨_,f2,f3⟩:=Cl hf;unfold BY at h
   split at h
   · rename_i o1 l1 c1 x1 m1 pk bop bln bco btx bnm bk Z
     obtain⟨L,O,pk',rest',rfl,h3,h4⟩:=er_cons h1;obtain⟨D,F,bk',W,rfl,h5,h6⟩:=er_cons h4;obtain⟨_,f4,f5⟩:=Cl f2;obtain⟨f6,f7,f8⟩:=Cl f5
     split at h
     · cases h
     · rename_i a1
       split at h
       · cases h
       · rename_i a2
         split at h
         · cases h
         · rename_i rt s4 a3
           obtain⟨e2',s2',i1,he2,hs2⟩:=XO hd n (ln':=L) (co':=O) U he h3 a1;obtain⟨s3',i2,hs3⟩:=GM hd hs2 (ln':=L) (co':=O) a2;obtain⟨s4',i3,Q⟩:=hp (ln':=D) (co':=F) hs3 he2 h5 f7 f6 a3
           cases t with
           |some t0 =>
             simp only at h
             split at h
             · cases h
             · rename_i a4
               obtain⟨s5',i4,hs5⟩:=GM hd Q (ln':=D) (co':=F) a4;obtain⟨G,i5,J⟩:=LX r rr hs5 he h2 f3 h;refine⟨G,?_,J⟩;unfold BY;simp only[Option.map_some] at i5 ⊢;rw[i1];simp only;rw[i2];simp only;rw[i3];simp only;rw[i4];simp only;rw[i5]
           |none =>
             simp only at h;obtain⟨G,i5,J⟩:=LX r rr Q he h2 f3 h;refine⟨G,?_,J⟩;unfold BY;simp only[Option.map_none,Option.map_some] at i5 ⊢;rw[i1];simp only;rw[i2];simp only;rw[i3];simp only;rw[i5]
   · rename_i hno
     cases h
     refine⟨s',?_,U⟩
     cases kk with
     |nil=>unfold BY;cases t <;> rfl
     |cons o1 l1 c1 x1 m1 pk rest =>
       cases rest with
       |nil=>unfold BY;cases t <;> rfl
       |cons o2 l2 c2 x2 m2 k2 r2 =>
         exfalso;obtain⟨_,_,q1,q2,rfl,_,h4⟩:=er_cons h1.symm;obtain⟨_,_,q3,q4,rfl,_,_⟩:=er_cons h4;exact hno _ _ _ _ _ _ _ _ _ _ _ _ _ C
end
theorem X6:∀(k k':Nd),k.er=k'.er→match k.last with
   |none=>k'.last=none
   |some b=>∃b',k'.last=some b'∧b'.op=b.op∧b'.tx=b.tx∧b'.nm=b.nm∧b.kids.er=b'.kids.er
 |.nil,k',h=>by rw[B6 h];rfl
 |.cons op ln co tx nm k .nil,k',h=>by
   obtain⟨ln',co',K,L,rfl,J,D⟩:=er_cons h;rw[B6 D];exact⟨_,C,C,C,C,J⟩
 |.cons op ln co tx nm k (.cons o l c x m k2 r),k',h=>by
   obtain⟨ln',co',K,L,rfl,J,D⟩:=er_cons h;obtain⟨l',c',F,G,rfl,O,Q⟩:=er_cons D;exact X6 (.cons o l c x m k2 r) (.cons o l' c' x m F G) D
theorem Ue{xs:List lU}:∀(k:Nd){b:N},k.fre xs=true→k.last=some b→b.kids.fre xs=true∧(b.op==5&&xs.contains b.tx)=false
 |.cons op ln co tx nm k .nil,b,h,D=>by
   obtain⟨f1,f2,_⟩:=Cl h
   cases D
   exact⟨f2,f1⟩
 |.cons op ln co tx nm k (.cons o l c x m k2 r),b,h,D=>Ue (.cons o l c x m k2 r) (Cl h).2.2 D
section
variable{d:Int}(hd:0≤d){b0:Bk}{ex:AB}(hex:kA d b0 ex){p p':Hq}(hp:rB d b0 ex p p')
include hd hex hp
variable {e':AB}{s s' s1:CS}{co' ln':Int}{n:Nat}{k k':Nd}
theorem aO{e:AB}{op:Int}{tx:lU}{t:T1}(O:Di d b0 s s')(he:FE d ex e e')(Q:k.er=k'.er)(Z:k.fre (VO ex)=true)(ho:(op==5&&(VO ex).contains tx)=false)
   (h:AQ n p s e op ln co tx k=.ok (t,s1)):∃s1',AQ n p' s' e' op ln' co' tx k'=.ok (t.sh d,s1')∧Di d b0 s1 s1':=by
 unfold AQ at h ⊢
 by_cases o1:(op==1)=true
 · rw[if_pos o1] at h ⊢
   cases h;exact⟨_,C,O⟩
 rw[if_neg o1] at h ⊢
 by_cases o2:(op==2)=true
 · rw[if_pos o2] at h ⊢
   cases h;exact⟨_,C,O⟩
 rw[if_neg o2] at h ⊢
 by_cases o3:(op==3)=true
 · rw[if_pos o3] at h ⊢
   cases h;exact⟨_,C,O⟩
 rw[if_neg o3] at h ⊢
 by_cases o4:(op==4)=true
 · rw[if_pos o4] at h ⊢
   cases h;exact⟨_,C,O⟩
 rw[if_neg o4] at h ⊢
 by_cases o5:(op==5)=true
 · rw[if_pos o5] at h ⊢
   exact cN hd O he (by rw[o5,Bool.true_and] at ho;exact ho) h
 rw[if_neg o5] at h ⊢
 by_cases o6:(op==6)=true
 · rw[if_pos o6] at h ⊢
   split at h
   · cases h
   rename_i hm
   split at h
   · cases h
   rename_i hc
   cases h
   obtain⟨J,i1,D⟩:=Th hd O (ln':=ln') (co':=co') hm;obtain⟨K,i2,L⟩:=SK hd hp k k' D he Q Z hc;exact⟨K,by rw[er_len Q,i1];simp only;rw[i2],L⟩
 rw[if_neg o6] at h ⊢
 by_cases o7:(op==7)=true
 · rw[if_pos o7] at h ⊢
   have hl:=X6 k k' Q;have hfl:=@Ue (VO ex) k
   split at h
   · rename_i hn
     rw[hn] at hl;simp only at hl;rw[hl]
     cases h
     exact⟨_,C,O⟩
   · rename_i b hb
     rw[hb] at hl;obtain⟨b',hb',e1,e2,e3,e4⟩:=hl;obtain⟨f1,f2⟩:=hfl Z hb;rw[hb'];obtain⟨p1,p2,p3⟩:=Sr k k' O he Q;simp only at h ⊢
     split at h
     · cases h
     rename_i U
     cases h
     obtain⟨J,i1,D⟩:=hp (ln':=b'.ln) (co':=b'.co) p3 p2 e4 f1 f2 U;refine⟨J,?_,D⟩;rw[e1,e2,e3,i1];simp only[Ty.snoc];rw[p1,← DX,← Hn,NL]
 rw[if_neg o7] at h ⊢
 by_cases o8:(op==8)=true
 · rw[if_pos o8] at h ⊢
   split at h
   · rw[B6 Q];cases h;exact⟨_,C,O⟩
   rename_i o l c x m k1 r;obtain⟨F,G,kk,rr,rfl,W,Y⟩:=er_cons Q;obtain⟨f1,f2,f3⟩:=Cl Z
   split at h
   · cases h
   rename_i U;obtain⟨J,i1,D⟩:=hp (ln':=F) (co':=G) O he W f2 f1 U;obtain⟨K,i2,L⟩:=Xe hd hp r rr D he Y f3 h;exact⟨K,by simp only;rw[i1];simp only;rw[i2],L⟩
 rw[if_neg o8] at h ⊢
 by_cases o9:(op==9)=true
 · rw[if_pos o9] at h ⊢
   split at h
   · rename_i o l c x m k1 o2 l2 c2 x2 m2 k2 r
     obtain⟨F,G,kk,rr,rfl,W,Y⟩:=er_cons Q;obtain⟨l2',c2',kk2,rr2,rfl,h3,h4⟩:=er_cons Y;obtain⟨f1,f2,f3⟩:=Cl Z;obtain⟨f4,f5,f6⟩:=Cl f3
     split at h
     · cases h
     rename_i t1 s2 U;obtain⟨J,i1,D⟩:=hp (ln':=F) (co':=G) O he W f2 f1 U
     split at h
     · cases h
     rename_i e1 hw
     have hw':∃e1',(if tx==[95] then .ok e' else DG J e' tx (t1.sh d) (Br (n+1) o kk) ln' co')=(.ok e1':RI AB)∧FE d ex e1 e1':=by
       rw[To (n+1) o k1 kk W]
       split at hw
       · rename_i hb;rw[if_pos hb];cases hw;exact⟨_,C,he⟩
       · rename_i hb;rw[if_neg hb];exact Ul hd hex D he hw
     obtain⟨e1',i2,he2⟩:=hw';obtain⟨K,i3,L⟩:=hp (ln':=l2') (co':=c2') D he2 h3 f5 f4 h;exact⟨K,by simp only;rw[i1];simp only;rw[i2];simp only;rw[i3],L⟩
   · rename_i hno
     cases h
     refine⟨s',?_,O⟩
     cases k' with
     |nil=>rfl
     |cons o1 l1 c1 x1 m1 pk rest =>
       cases rest with
       |nil=>rfl
       |cons o2 l2 c2 x2 m2 k2 r2 =>
         exfalso;obtain⟨_,_,q1,q2,rfl,_,h4⟩:=er_cons Q.symm;obtain⟨_,_,q3,q4,rfl,_,_⟩:=er_cons h4;exact hno _ _ _ _ _ _ _ _ _ _ _ _ _ C
 rw[if_neg o9] at h ⊢
 by_cases o10:(op==10)=true
 · rw[if_pos o10] at h ⊢
   split at h
   · rename_i o l c x m k1 o2 l2 c2 x2 m2 k2 r
     obtain⟨F,G,kk,rr,rfl,W,Y⟩:=er_cons Q;obtain⟨l2',c2',kk2,rr2,rfl,h3,h4⟩:=er_cons Y;obtain⟨f1,f2,f3⟩:=Cl Z;obtain⟨f4,f5,f6⟩:=Cl f3
     split at h
     · cases h
     rename_i U;obtain⟨J,i1,D⟩:=kW hd hp O he (ln':=ln') (co':=co') (l':=F) (c':=G) W f2 f1 U
     split at h
     · cases h
     rename_i hw;obtain⟨e1',i2,he2⟩:=Ul hd hex D he (ln':=ln') (co':=co') hw;obtain⟨K,i3,L⟩:=hp (ln':=l2') (co':=c2') D he2 h3 f5 f4 h;exact⟨K,by simp only;rw[i1];simp only;rw[i2];simp only;rw[i3],L⟩
   · rename_i hno
     cases h
     refine⟨s',?_,O⟩
     cases k' with
     |nil=>rfl
     |cons o1 l1 c1 x1 m1 pk rest =>
       cases rest with
       |nil=>rfl
       |cons o2 l2 c2 x2 m2 k2 r2 =>
         exfalso;obtain⟨_,_,q1,q2,rfl,_,h4⟩:=er_cons Q.symm;obtain⟨_,_,q3,q4,rfl,_,_⟩:=er_cons h4;exact hno _ _ _ _ _ _ _ _ _ _ _ _ _ C
 rw[if_neg o10] at h ⊢
 by_cases o11:(op==11)=true
 · rw[if_pos o11] at h ⊢
   split at h
   · rename_i o l c x m k1 o2 l2 c2 x2 m2 k2 o3 l3 c3 x3 m3 k3 r
     obtain⟨F,G,kk,rr,rfl,W,Y⟩:=er_cons Q;obtain⟨l2',c2',kk2,rr2,rfl,h3,h4⟩:=er_cons Y;obtain⟨l3',c3',kk3,rr3,rfl,h5,h6⟩:=er_cons h4;obtain⟨f1,f2,f3⟩:=Cl Z;obtain⟨f4,f5,f6⟩:=Cl f3;obtain⟨f7,f8,f9⟩:=Cl f6
     split at h
     · cases h
     rename_i U;obtain⟨J,i1,D⟩:=hp (ln':=F) (co':=G) O he W f2 f1 U
     split at h
     · cases h
     rename_i hh;obtain⟨K,i2,L⟩:=GM hd D (ln':=F) (co':=G) hh
     split at h
     · cases h
     rename_i hx2;obtain⟨s4',i3,hs4⟩:=hp (ln':=l2') (co':=c2') L he h3 f5 f4 hx2
     split at h
     · cases h
     rename_i hx3;obtain⟨s5',i4,hs5⟩:=hp (ln':=l3') (co':=c3') hs4 he h5 f8 f7 hx3
     split at h
     · cases h
     rename_i hh2
     cases h
     obtain⟨s6',i5,hs6⟩:=GM hd hs5 (ln':=l3') (co':=c3') hh2;refine⟨s6',?_,hs6⟩;simp only;rw[i1];simp only;rw[show c0 bB=(c0 bB).sh d from C,i2];simp only;rw[i3];simp only;rw[i4];simp only;rw[i5]
   · rename_i hno
     cases h
     refine⟨s',?_,O⟩
     cases k' with
     |nil=>rfl
     |cons o1 l1 c1 x1 m1 pk rest =>
       cases rest with
       |nil=>rfl
       |cons o2 l2 c2 x2 m2 k2 r2 =>
         cases r2 with
         |nil=>rfl
         |cons o3 l3 c3 x3 m3 k3 r3 =>
           exfalso;obtain⟨_,_,q1,q2,rfl,_,h4⟩:=er_cons Q.symm;obtain⟨_,_,q3,q4,rfl,_,h5⟩:=er_cons h4;obtain⟨_,_,q5,q6,rfl,_,_⟩:=er_cons h5;exact hno _ _ _ _ _ _ _ _ _ _ _ _ _ _ _ _ _ _ _ C
 rw[if_neg o11] at h ⊢
 by_cases o12:(op==12)=true
 · rw[if_pos o12] at h ⊢
   split at h
   · cases h
   rename_i U
   cases h
   obtain⟨J,i1,D⟩:=OP hp k k' O he Q Z U;exact⟨J,by rw[i1];simp only;rw[LN],D⟩
 rw[if_neg o12] at h ⊢
 by_cases o13:(op==13)=true
 · rw[if_pos o13] at h ⊢
   split at h
   · cases h
   rename_i U
   cases h
   obtain⟨J,i1,D⟩:=OP hp k k' O he Q Z U;exact⟨J,by rw[i1];rfl,D⟩
 rw[if_neg o13] at h ⊢
 by_cases o14:(op==14)=true
 · rw[if_pos o14] at h ⊢
   split at h
   · rw[B6 Q];cases h;exact⟨_,C,O⟩
   rename_i o l c x m k1 r;obtain⟨F,G,kk,rr,rfl,W,Y⟩:=er_cons Q;obtain⟨f1,f2,f3⟩:=Cl Z
   split at h
   · cases h
   rename_i U;obtain⟨J,i1,D⟩:=hp (ln':=F) (co':=G) O he W f2 f1 U;obtain⟨K,i2,L⟩:=LX hd hp r rr D he Y f3 h;exact⟨K,by simp only;rw[i1];simp only;exact i2,L⟩
 rw[if_neg o14] at h ⊢
 by_cases o15:(op==15)=true
 · rw[if_pos o15] at h ⊢
   split at h
   · rw[B6 Q];cases h;exact⟨_,C,O⟩
   rename_i o l c x m k1 r;obtain⟨F,G,kk,rr,rfl,W,Y⟩:=er_cons Q;obtain⟨f1,f2,f3⟩:=Cl Z
   split at h
   · cases h
   rename_i U;obtain⟨J,i1,D⟩:=hp (ln':=F) (co':=G) O he W f2 f1 U;obtain⟨K,i2,L⟩:=LX hd hp r rr D he Y f3 h;exact⟨K,by simp only;rw[i1];simp only;exact i2,L⟩
 rw[if_neg o15] at h ⊢
 by_cases o16:(op==16)=true
 · rw[if_pos o16] at h ⊢
   split at h
   · rw[B6 Q];cases h;exact⟨_,C,O⟩
   rename_i o l c x m k1 r;obtain⟨F,G,kk,rr,rfl,W,Y⟩:=er_cons Q;obtain⟨f1,f2,f3⟩:=Cl Z
   split at h
   · cases h
   rename_i U;obtain⟨J,i1,D⟩:=hp (ln':=F) (co':=G) O he W f2 f1 U
   split at h
   · cases h
   rename_i s3 hh
   cases h
   obtain⟨K,i2,L⟩:=GM hd D (ln':=F) (co':=G) hh;obtain⟨g1,g2⟩:=GY L;exact⟨(Au K).2,by simp only;rw[i1];simp only;rw[show c0 bX=(c0 bX).sh d from C,i2];simp only;exact congrArg (λz=>Except.ok (z,(Au K).2)) g1,g2⟩
 rw[if_neg o16] at h ⊢
 split at h
 · rw[B6 Q];cases h;exact⟨_,C,O⟩
 rename_i o l c x m k1 r;obtain⟨F,G,kk,rr,rfl,W,Y⟩:=er_cons Q;obtain⟨f1,f2,f3⟩:=Cl Z;obtain⟨J,i1,D⟩:=hp (ln':=F) (co':=G) O he W f2 f1 h;exact⟨J,i1,D⟩
omit hp
theorem X8:∀n,rB d b0 ex (AJ n) (AJ n)
 |0=>by intro s s' e e' op ln co ln' co' nm tx k k' t s1 G he J K L h;cases h
 |n+1=>by
   intro s s' e e' op ln co ln' co' nm tx k k' t s1 G he J K L h;unfold AJ at h
   split at h
   · cases h
   · rename_i O
     split at h
     · cases h
     · rename_i Q
       cases h
       obtain⟨F,i1,D⟩:=aO hd hex (X8 n) G he (ln':=ln') (co':=co') J K L O;exact⟨F,by unfold AJ;rw[i1];simp only;rw[LR hd D Q],D⟩
end
theorem L2{p:Int→Bool}{t:T1}{r:Ty}(h:t.one.on p=true)(D:r.on p=true):(t.cons r).on p=true:=by
 cases t with
 |var n=>simp only[T1.one,T1.cons,Ty.on,Bool.and_true] at h ⊢;rw[h,D];rfl
 |con tx k=>simp only[T1.one,T1.cons,Ty.on,Bool.and_true] at h ⊢;rw[h,D];rfl
theorem Hs{p:Int→Bool}:∀x y:Ty,x.on p=true→y.on p=true→(x.app y).on p=true
 |.nil,_,_,h=>h
 |.var n r,y,D,F=>by simp only[Ty.on,Bool.and_eq_true] at D;simp only[Ty.app,Ty.on,D.1,Hs r y D.2 F];rfl
 |.con _ k r,y,D,F=>by simp only[Ty.on,Bool.and_eq_true] at D;simp only[Ty.app,Ty.on,D.1,Hs r y D.2 F];rfl
section
variable{d:Int}(hd:0≤d){b0:Bk}{ex:AB}{s s':CS}{e e':AB}
variable(hex:kA d b0 ex)
include hex
end
section
variable{xs:List lU}
def nmT(xs:List lU)(t:A4):Prop:=t.k=5→xs.contains t.tx=false
def Fo.nm(xs:List lU):Fo→Prop
 |.nil=>True
 |.cons t k r=>nmT xs t∧k.nm xs∧r.nm xs
def NF(xs:List lU)(a:N):Prop:=(a.op=5→xs.contains a.tx=false)∧a.kids.fre xs=true
variable {r:Nd}
theorem NF.cons{a:N}(h:NF xs a)(D:r.fre xs=true):(a.cons r).fre xs=true:=by
 simp only[N.cons,Nd.fre,h.2,D,Bool.and_true,Bool.or_eq_true,Bool.not_eq_true',beq_eq_false_iff_ne]
 by_cases e:a.op=5
 · exact .inr (h.1 e)
 · exact .inl e
theorem NF.one{a:N}(h:NF xs a):a.one.fre xs=true:=h.cons C
end
section
variable{z:lU}
end
end Go.SP
namespace Go.SP
theorem Wd{b:Bk}{n:Int}{tx:lU}{k:Ty}(h:A8 b n=some (.con tx k)):Af b (.var n)=.con tx k:=by
 unfold Af
 cases b with
 |nil=>cases h
 |cons p q =>
   show (match A8 (p::q) n with|none=>T1.var n|some t'=>G9 (p::q) (q.length+1) t')=_;rw[h];rfl
def HD(b:Bk)(t:T1)(c:lU):Prop:=t=c0 c∨∃n,t=.var n∧A8 b n=some (c0 c)
structure SG(s:CS):Prop where
 one:A8 s.sol 1=some (c0 bI)
 le:∀p∈s.sol,p.1≤s.fresh
theorem HD.head{b:Bk}{t:T1}{c:lU}:HD b t c→Af b t=c0 c
 |.inl h=>by rw[h];rfl
 |.inr ⟨n,h,D⟩=>by rw[h];exact Wd D
theorem HD.full{b:Bk}{t:T1}{c:lU}(h:HD b t c):fullS b t=some (c0 c):=by
 rcases h with rfl|⟨n,rfl,G⟩
 · rfl
 · have F:=Wd G
   have J:D0 b (.var n)=true:=by
     show (match Af b (.var n) with|.var _=>By b 999 .nil|.con _ D=>By b 999 (D.app .nil))=true;rw[show Af b (.var n)=_ from F];rfl
   show (if D0 b (.var n) then some (AE b 1000 (T1.var n).one).hd else none)=_;rw[if_pos J];show some (match Af b (.var n) with|.var m=>Ty.var m (AE b 999 .nil)|.con tx D=>.con tx (AE b 999 D) (AE b 999 .nil)).hd=_;rw[show Af b (.var n)=_ from F];rfl
variable {s:CS}
theorem SG.bind(h:SG s)(F:1≤s.fresh)(t:lU):SG {s with fresh:=s.fresh+1,sol:=(s.fresh+1,c0 t)::s.sol}:=by
 refine⟨?_,λp D=>?_⟩
 · show (if s.fresh+1==1 then some (c0 t) else A8 s.sol 1)=_
   rw[if_neg (by simp;omega)];exact h.one
 · rcases List.mem_cons.1 D with rfl|D
   · exact Int.le_refl _
   · have:=h.le p D;show p.1≤s.fresh+1;omega
theorem HD.small{b:Bk}{t:T1}{c:lU}(h:HD b t c)(k:Nat)(r:Ty):By b (k+1) (t.cons r)=By b k r:=by
 rcases h with rfl|⟨n,rfl,D⟩
 · rfl
 · show (match Af b (.var n) with|.var _=>By b k r|.con _ F=>By b k (F.app r))=_
   rw[show Af b (.var n)=_ from Wd D];rfl
end Go.SP
namespace Go.SP
open Go.SW Go.RowKit
end Go.SP
namespace Go.Proofs.YtgdndhedjlmagaaGreatDoor
open Go.SW Go.SP Go.RowKit
end Go.Proofs.YtgdndhedjlmagaaGreatDoor
namespace Go.SW
open Go.RowKit
end Go.SW
namespace Go.Proofs.YtgdndhedjlmagaaGreatDoor
open Go.SW Go.SP Go.RowKit
variable {f:Fq}{i:Nat}{a:oA}{w:wO}{src:lU}
theorem Nu.get{l:List (lU×lU)}{c:Nat}{n t:lU}(h:Nu w f l a c)(F:l[i]?=some (n,t)):∃b off,a=some ⟨b,off,none⟩∧Cs w f b (off+i*2) [S n,S t]:=by
 have D:∀l:List (lU×lU),Go.SP.bC l=l.flatMap λx=>[S x.1,S x.2]:=λl=>by
   induction l with
   |nil=>rfl
   |cons x l J=>obtain⟨u,v⟩:=x;simp only[Go.SP.bC,J,List.flatMap_cons];rfl
 rcases h.2 with h|⟨b,off,K,G⟩
 · subst h;cases F
 · rw[D] at G
   exact⟨b,off,K,Cs.flat (λx:lU×lU=>[S x.1,S x.2]) 2 (λ_=>C) l off i _ G F⟩
theorem PM(h:((xH (CV src)).2.2 != 0)=false):(CM src).2.2.2=0∧∃out,CY (CM src).1=.ok out∧CV src=.ok out:=by
 have h:(xH (CV src)).2.2=0:=by simpa using h
 by_cases D:(CM src).2.2.2=0
 · refine⟨D,?_⟩
   rw[Ob D] at h ⊢
   cases F:CY (CM src).1 with
   |error e=>rw[F] at h;exact absurd h (iE F)
   |ok out=>exact⟨out,C,C⟩
 · rw[Px D] at h;exact absurd h D
end Go.Proofs.YtgdndhedjlmagaaGreatDoor
namespace Go.SP
open Go.SW Go.RowKit
def ZI(x:lU):lU:=(GJ (1,1) x).1
def mZ(d:UInt8):Prop:=d=41∨d=32
theorem mF{d:UInt8}(h:mZ d):decide (Lib.indexByte KA d<0)=false:=by rcases h with rfl|rfl <;> decide
theorem M8{d:UInt8}(hd:mZ d)(b:lU):∀(l:lU)(p:Ps),(Cr p (l++d::b)).1=(Cr p l).1∧(Cr p (l++d::b)).2.1=(Cr p l).2.1++d::b
 | [],p=>by simp[Cr,mF hd]
 |c::r,p=>by
   simp only[List.cons_append,Cr]
   split
   · have h:=M8 hd b r (adv c p)
     exact⟨by simp only[h.1],h.2⟩
   · exact⟨C,C⟩
variable {p:Ps}
theorem Us{q:Ps}{l r:lU}{x:UInt8}(h:Fw p (l++[41])=.ok (x,r,q)):∃D,r=D++[41]∧Fw p l=.ok (x,D,q)∧D.length<l.length:=by
 cases l with
 |nil=>simp only[List.nil_append,Fw] at h;repeat' (split at h) <;> first|(cases h;done)|(exfalso;revert h;decide)|contradiction
 |cons c l =>
   simp only[Fw,List.cons_append] at h ⊢
   split at h
   · rename_i F;cases h;exact⟨l,C,if_pos F,by simp⟩
   · rename_i F
     rw[if_neg F]
     split at h
     · rename_i G;cases h;exact⟨l,C,if_pos G,by simp⟩
     · rename_i G
       rw[if_neg G]
       split at h
       · rename_i J;cases h;exact⟨l,C,if_pos J,by simp⟩
       · rename_i J
         rw[if_neg J]
         split at h
         · rename_i L
           rw[if_pos L];have K:decide ((0:Int)≤Lib.indexByte Ff 41)=false:=dC;rcases l with _|⟨a,_|⟨d,l⟩⟩
           · cases h
           · simp only[List.cons_append,List.nil_append,K,Bool.and_false] at h
             cases h
           · simp only[List.cons_append] at h ⊢
             split at h
             · rename_i O;cases h;exact⟨l,C,if_pos O,by simp;omega⟩
             · cases h
         · cases h
theorem NA{s:Ps}:∀(F:Nat)(p:Ps)(acc l tx r:lU)(q:Ps),DU s F p acc (l++[41])=.ok (tx,r,q)→∃L,r=L++[41]∧DU s F p acc l=.ok (tx,L,q)
 |0,_,_,_,_,_,_,h=>by cases h
 |F+1,p,acc,[],tx,r,q,h=>by
   rw[List.nil_append,CI] at h;rw[if_neg (by decide),if_neg (by decide),if_pos (by decide)] at h
   cases F <;> cases h
 |F+1,p,acc,c::l,tx,r,q,h=>by
   rw[List.cons_append] at h;rw[CI] at h ⊢
   split at h
   · rename_i D
     rw[if_pos D]
     split at h
     · cases h
     · rename_i G;cases h;exact⟨l,C,if_neg G⟩
   · rename_i D
     rw[if_neg D]
     split at h
     · cases h
     · rename_i G
       rw[if_neg G]
       split at h
       · rename_i J;rw[if_pos J];exact NA F _ _ l tx r q h
       · rename_i J
         rw[if_neg J]
         cases l with
         |nil =>
           exfalso;simp only[List.nil_append] at h
           split at h
           · cases h
           · rename_i he
             obtain⟨_,_,O,_⟩:=Us (l:=[]) he
             cases O
         |cons d l =>
           simp only[List.cons_append] at h
           split at h
           · cases h
           · rename_i he
             obtain⟨Q,rfl,K,_⟩:=Us (l:=d::l) he;obtain⟨U,W,Y⟩:=NA F _ _ Q tx r q h;exact⟨U,W,by simp only[K];exact Y⟩
theorem Ug(x:lU):∀(l:lU)(p h:Ps),(∃r,r≠[]∧(GJ p (l++[41])).1=r++[41]∧∀b,(GJ h (l++b)).1=r++b)∨((GJ p (l++[41])).1=[]∧∀x,(GJ h (l++x)).1=ZI x)
 | [],p,h=>.inr ⟨by simp only[List.nil_append,GJ];rfl,λx=>VT _ _ x⟩
 |c::l,p,h=>by
   simp only[List.cons_append,GJ]
   split
   · exact Ug x l _ _
   · exact .inl ⟨c::l,by simp,C,λb=>C⟩
theorem nN{c:UInt8}{l r:lU}{t:List A4}(h:O7 (c::(l++[41]))=some (t,r)) :
   (∃D,r=D++[41]∧D.length≤l.length∧∀d b,mZ d→O7 (c::(l++d::b))=some (t,D++d::b))∨(t=[]∧r=[]∧∀y,O7 (c::(l++y))=some ([],ZI y)):=by
 by_cases F:decide ((0:Int)≤Lib.indexByte ER c)=true
 · have e:∀y,O7 (c::y)=some ([],y):=λy=>by unfold O7;rw[B3,if_pos F];rfl
   rw[e] at h
   cases h
   exact .inl ⟨l,C,Nat.le_refl _,λd b _=>e _⟩
 by_cases G:((c.toNat:Int)==59)=true
 · have e:∀y,O7 (c::y)=some ([],(GJ (adv c (1,1)) y).1):=λy=>by unfold O7;rw[B3,if_neg F,if_pos G];rfl
   rw[e] at h
   cases h
   rcases Ug [] l (adv c (1,1)) (adv c (1,1)) with ⟨r,_,g1,g2⟩|⟨g1,g2⟩
   · have U:=KI (adv c (1,1)) (l++[41])
     rw[g1] at U;simp only[List.length_append,List.length_cons,List.length_nil] at U;exact .inl ⟨r,g1,oM,λd b _=>by rw[e,g2]⟩
   · exact .inr ⟨C,g1,λy=>by rw[e,g2]⟩
 by_cases K:((c.toNat:Int)==40)=true
 · have e:∀y,O7 (c::y)=some ([A4.er ⟨0,1,1,0,[]⟩],y):=λy=>by unfold O7;rw[B3,if_neg F,if_neg G,if_pos K];rfl
   rw[e] at h
   cases h
   exact .inl ⟨l,C,Nat.le_refl _,λd b _=>e _⟩
 by_cases L:((c.toNat:Int)==41)=true
 · have e:∀y,O7 (c::y)=some ([A4.er ⟨1,1,1,0,[]⟩],y):=λy=>by unfold O7;rw[B3,if_neg F,if_neg G,if_neg K,if_pos L];rfl
   rw[e] at h
   cases h
   exact .inl ⟨l,C,Nat.le_refl _,λd b _=>e _⟩
 by_cases W:((c.toNat:Int)==34)=true
 · have e:∀y,O7 (c::y)=match DU (1,1) (c::y).length (adv c (1,1)) [] y with
       |.error _=>none
       |.ok (tx,D,_)=>some ([A4.er ⟨4,1,1,0,tx⟩],D):=λy=>by
     unfold O7;rw[B3,if_neg F,if_neg G,if_neg K,if_neg L,if_pos W]
     cases DU (1,1) (c::y).length (adv c (1,1)) [] y with
     |error x=>rfl
     |ok x=>rfl
   rw[e] at h
   cases O:DU (1,1) (c::(l++[41])).length (adv c (1,1)) [] (l++[41]) with
   |error x=>rw[O] at h;cases h
   |ok x =>
     obtain⟨tx,r0,q⟩:=x;rw[O] at h
     cases h
     obtain⟨D,rfl,Y⟩:=NA _ _ _ _ _ _ _ O;refine .inl ⟨D,C,IZ _ _ _ _ _ _ _ Y,λd b _=>?_⟩;have J:=Sb (c::(l++[41])).length l (c::(l++d::b)).length (1,1) (1,1) (adv c (1,1)) (adv c (1,1)) [] (by simp;omega) (by simp;omega);rw[Y] at J
     cases Q:DU (1,1) (c::(l++d::b)).length (adv c (1,1)) [] l with
     |error x=>rw[Q] at J;cases J
     |ok x =>
       obtain⟨Z,r2,q2⟩:=x;rw[Q] at J
       cases J
       rw[e,OU (d::b) _ _ _ _ _ _ _ Q]
 have e:∀y,O7 (c::y)=match Gj (c::(Cr (adv c (1,1)) y).1) with
     |none=>none
     |some (k,nm,tx)=>some ([A4.er ⟨k,1,1,nm,tx⟩],(Cr (adv c (1,1)) y).2.1):=λy=>by
   unfold O7;rw[B3,if_neg F,if_neg G,if_neg K,if_neg L,if_neg W]
   cases Gj (c::(Cr (adv c (1,1)) y).1) with
   |none=>rfl
   |some x=>rfl
 have g:=M8 (d:=41) (.inl C) [] l (adv c (1,1));rw[e,g.1,g.2] at h
 cases hw:Gj (c::(Cr (adv c (1,1)) l).1) with
 |none=>rw[hw] at h;cases h
 |some x =>
   obtain⟨k,nm,tx⟩:=x;rw[hw] at h
   cases h
   refine .inl ⟨_,C,J1 _ _,λd b hd=>?_⟩;have g2:=M8 hd b l (adv c (1,1));rw[e,g2.1,g2.2,hw]
theorem aU:∀(n:Nat)(l:lU)(D:List A4),l.length≤n→DS (l++[41])=some D →
   (∃ts,D=ts++[A4.er ⟨1,1,1,0,[]⟩]∧∀d b,mZ d→DS (l++d::b)=(DS (d::b)).map (ts ++ ·))∨(∀d b,mZ d→DS (l++d::b)=(DS (ZI (d::b))).map (D ++ ·))
 |n,[],D,_,h=>by
   have e:DS ([]++[41])=some [A4.er ⟨1,1,1,0,[]⟩]:=kR;rw[e] at h
   cases h
   exact .inl ⟨[],C,λd b _=>by cases F:DS (d::b) <;> simp[F]⟩
 |0,_::_,_,J,_=>by simp at J
 |n+1,c::l,D,J,h=>by
   rw[List.cons_append,Gr] at h
   cases F:O7 (c::(l++[41])) with
   |none=>rw[F] at h;cases h
   |some x =>
     obtain⟨t,r⟩:=x;rw[F] at h;simp only at h;simp only[List.length_cons] at J;rcases nN F with ⟨L,rfl,O,G⟩|⟨rfl,rfl,G⟩
     · cases K:DS (L++[41]) with
       |none=>rw[K] at h;cases h
       |some t2 =>
         rw[K] at h
         cases h
         rcases aU n L t2 oM K with ⟨ts,rfl,g⟩|g
         · refine .inl ⟨t++ts,by simp,λd b hd=>?_⟩
           rw[List.cons_append,Gr,G d b hd];simp only[g d b hd]
           cases DS (d::b) <;> simp
         · refine .inr λd b hd=>?_
           rw[List.cons_append,Gr,G d b hd];simp only[g d b hd]
           cases DS (ZI (d::b)) <;> simp
     · rw[IU] at h
       cases h
       refine .inr λd b _=>?_;rw[List.cons_append,Gr,G (d::b)];simp
def Fo.cat:Fo→Fo→Fo
 |.nil,y=>y
 |.cons t k r,y=>.cons t k (r.cat y)
theorem WZ:∀x:Fo,x.cat .nil=x
 |.nil=>rfl
 |.cons t k r=>by rw[Fo.cat,WZ r]
theorem He(t:A4)(k:Fo):∀x y:Fo,x.cat (y.snoc t k)=(x.cat y).snoc t k
 |.nil,_=>rfl
 |.cons a b r,y=>by rw[Fo.cat,He t k r y];rfl
def NX:List A4→List (A4×Fo)→Fo→Option (List (A4×Fo)×Fo)
 | [],st,cur=>some (st,cur)
 |k::l,st,cur =>
   if k.k==0 then NX l ((k,cur)::st) .nil
   else if k.k==1 then (match st with
     | []=>none
     |(o,p)::s=>NX l s (p.snoc o cur))
   else NX l st (cur.snoc k .nil)
def FH(c0:Fo):List (A4×Fo)→List (A4×Fo)
 | []=>[]
 | [(o,p)]=>[(o,c0.cat p)]
 |x::y::l=>x::FH c0 (y::l)
def Iy(c0:Fo):List (A4×Fo)→Fo→Fo
 | [],c=>c0.cat c
 |_::_,c=>c
theorem Kb(c0:Fo)(st:List (A4×Fo))(l:List A4):∀(ts:List A4)(rs D:List (A4×Fo))(c c':Fo),NX ts rs c=some (D,c') →
   Ar (ts++l) (FH c0 rs++st) (Iy c0 rs c)=Ar l (FH c0 D++st) (Iy c0 D c')∨∃e,Ar (ts++l) (FH c0 rs++st) (Iy c0 rs c)=.error e
 | [],rs,D,c,c',h=>by cases h;exact .inl C
 |k::ts,rs,D,c,c',h=>by
   simp only[NX] at h;simp only[List.cons_append,Ar]
   split at h
   · rename_i G
     rw[if_pos G]
     split
     · exact .inr ⟨_,C⟩
     · have F:=Kb c0 st l ts ((k,c)::rs) D .nil c' h
       have e:(k,Iy c0 rs c)::(FH c0 rs++st)=FH c0 ((k,c)::rs)++st:=by
         cases rs with
         |nil=>rfl
         |cons x rs=>rfl
       rw[e];exact F
   · rename_i G
     rw[if_neg G]
     split at h
     · rename_i J
       rw[if_pos J]
       cases rs with
       |nil=>cases h
       |cons x rs =>
         obtain⟨o,p⟩:=x;simp only at h;have F:=Kb c0 st l ts rs D (p.snoc o c) c' h
         cases rs with
         |nil =>
           simp only[FH,Iy,List.cons_append,List.nil_append,He] at F ⊢;exact F
         |cons y rs=>exact F
     · rename_i J
       rw[if_neg J];have F:=Kb c0 st l ts rs D (c.snoc k .nil) c' h
       cases rs with
       |nil =>
         simp only[FH,Iy,List.nil_append,He] at F ⊢;exact F
       |cons y rs=>exact F
theorem Mo{ts:List A4}{F:Fo}(h:NX ts [] .nil=some ([],F))(st:List (A4×Fo))(cur:Fo)(l:List A4):Ar (ts++l) st cur=Ar l st (cur.cat F)∨∃e,Ar (ts++l) st cur=.error e:=by
 have:=Kb cur st l ts [] [] .nil F h;simpa only[FH,Iy,List.nil_append,WZ] using this
def bl:List (A4×Fo)→Fo→Nat
 | [],c=>c.len
 | [(_,p)],_=>p.len+1
 |_::y::l,c=>bl (y::l) c
theorem LZ(t:A4)(k:Fo):∀x:Fo,(x.snoc t k).len=x.len+1
 |.nil=>rfl
 |.cons a b r=>by show (r.snoc t k).len+1=r.len+1+1;rw[LZ t k r]
theorem R7(x:A4×Fo)(st:List (A4×Fo))(c c':Fo):bl (x::st) c=bl (x::st) c':=by
 induction st generalizing x with
 |nil=>rfl
 |cons y st h=>exact h y
theorem Jy:∀(l:List A4)(st:List (A4×Fo))(cur fo:Fo),Ar l st cur=.ok fo→bl st cur≤fo.len∧(l≠[]→st=[]→cur.len+1≤fo.len)
 | [],[],cur,fo,h=>by cases h;exact⟨Nat.le_refl _,λh=>absurd C h⟩
 | [],(o,p)::s,cur,fo,h=>by
   unfold Ar at h
   split at h <;> cases h
 |k::l,st,cur,fo,h=>by
   simp only[Ar] at h
   split at h
   · split at h
     · cases h
     · have D:=(Jy l _ _ fo h).1
       cases st with
       |nil=>exact⟨Nat.le_trans (Nat.le_succ _) D,λ_ _=>D⟩
       |cons x st=>exact⟨by rw[R7 x st cur .nil];exact D,λ_ h=>by cases h⟩
   · split at h
     · cases st with
       |nil=>cases h
       |cons x st =>
         obtain⟨o,p⟩:=x;have D:=(Jy l _ _ fo h).1;refine⟨?_,λ_ h=>by cases h⟩
         cases st with
         |nil=>rw[bl,LZ] at D;exact D
         |cons y st=>show bl (y::st) cur≤_;rw[R7 y st cur (p.snoc o cur)];exact D
     · have D:=(Jy l _ _ fo h).1
       cases st with
       |nil=>rw[bl,LZ] at D;exact⟨Nat.le_trans (Nat.le_succ _) D,λ_ _=>D⟩
       |cons x st=>exact⟨by rw[R7 x st cur (cur.snoc k .nil)];exact D,λ_ h=>by cases h⟩
variable {cl:A4}{fo:Fo}
theorem MF{w p:Fo}{a:A4}(D:(cl.k==0)=false)(G:(cl.k==1)=true)(J:fo.len≤p.len+1):∀(ts:List A4)(rs:List (A4×Fo))(c:Fo),Ar (ts++[cl]) (FH w rs++[(a,p)]) (Iy w rs c)=.ok fo →
   ∃F,NX ts rs c=some ([],F)∧fo=p.snoc a (w.cat F)
 | [],rs,c,h=>by
   simp only[List.nil_append,Ar,D,G,Bool.false_eq_true,if_false,if_true] at h
   cases rs with
   |nil =>
     simp only[FH,Iy,List.nil_append,Ar] at h
     cases h
     exact⟨c,C,C⟩
   |cons x rs =>
     exfalso
     cases rs with
     |nil=>obtain⟨o,q⟩:=x;simp only[FH,List.cons_append,List.nil_append,Ar] at h;split at h <;> cases h
     |cons y rs =>
       simp only[FH,List.cons_append] at h
       cases he:FH w (y::rs)++[(a,p)] with
       |nil=>simp at he
       |cons z O=>rw[he] at h;simp only[Ar] at h;split at h <;> cases h
 |k::ts,rs,c,h=>by
   simp only[List.cons_append,Ar] at h;simp only[NX]
   split at h
   · rename_i K
     rw[if_pos K]
     split at h
     · cases h
     · refine MF D G J ts ((k,c)::rs) .nil ?_
       have e:(k,Iy w rs c)::(FH w rs++[(a,p)])=FH w ((k,c)::rs)++[(a,p)]:=by
         cases rs with
         |nil=>rfl
         |cons x rs=>rfl
       rw[← e];exact h
   · rename_i K
     rw[if_neg K]
     split at h
     · rename_i L
       rw[if_pos L]
       cases rs with
       |nil =>
         exfalso;simp only[FH,Iy,List.nil_append] at h;have:=(Jy _ _ _ _ h).2 (by simp) C;rw[LZ] at this;omega
       |cons x rs =>
         obtain⟨o,q⟩:=x
         cases rs with
         |nil =>
           simp only[FH,Iy,List.cons_append,List.nil_append] at h;refine MF D G J ts [] (q.snoc o c) ?_;simp only[FH,Iy,List.nil_append,He];exact h
         |cons y rs=>exact MF D G J ts (y::rs) (q.snoc o c) h
     · rename_i L
       rw[if_neg L]
       cases rs with
       |nil =>
         simp only[FH,Iy,List.nil_append] at h;refine MF D G J ts [] (c.snoc k .nil) ?_;simp only[FH,Iy,List.nil_append,He];exact h
       |cons y rs=>exact MF D G J ts (y::rs) (c.snoc k .nil) h
def Bo:A4:=A4.er ⟨0,1,1,0,[]⟩
def K6:A4:=A4.er ⟨1,1,1,0,[]⟩
theorem Ge(y:lU):DS (40::y)=(DS y).map ([Bo] ++ ·):=by
 rw[Gr,show O7 (40::y)=some ([Bo],y) from C]
theorem J5(y:lU):DS (41::y)=(DS y).map ([K6] ++ ·):=by
 rw[Gr,show O7 (41::y)=some ([K6],y) from C]
theorem Ie(y:lU):DS (32::y)=DS y:=by
 rw[Gr,show O7 (32::y)=some ([],y) from C];simp
theorem Sv{d:UInt8}{b:lU}(hd:decide (Lib.indexByte KA d<0)=false):∀(w:lU)(p:Ps),w.all (λx=>decide (Lib.indexByte KA x<0))=true→(Cr p (w++d::b)).1=w∧(Cr p (w++d::b)).2.1=d::b
 | [],p,_=>by simp[Cr,hd]
 |c::w,p,h=>by
   simp only[List.all_cons,Bool.and_eq_true] at h;have D:=Sv (b:=b) hd w (adv c p) h.2;simp only[List.cons_append,Cr,h.1,if_true];exact⟨by rw[D.1],D.2⟩
theorem LS{c d:UInt8}{w b tx:lU}{k nm:Int}(h:(decide ((0:Int)≤Lib.indexByte ER c)||(c.toNat:Int)==59||(c.toNat:Int)==40||(c.toNat:Int)==41||(c.toNat:Int)==34)=false)
   (hd:decide (Lib.indexByte KA d<0)=false) (hw:w.all (λx=>decide (Lib.indexByte KA x<0))=true) (hm:Gj (c::w)=some (k,nm,tx)):DS (c::(w++d::b))=(DS (d::b)).map ([A4.er ⟨k,1,1,nm,tx⟩] ++ ·):=by
 simp only[Bool.or_eq_false_iff] at h;have g:=Sv (b:=b) hd w (adv c (1,1)) hw
 have e:O7 (c::(w++d::b))=some ([A4.er ⟨k,1,1,nm,tx⟩],d::b):=by
   unfold O7;rw[B3,if_neg (by rw[h.1.1.1.1];decide),if_neg (by rw[h.1.1.1.2];decide),if_neg (by rw[h.1.1.2];decide),if_neg (by rw[h.1.2];decide),if_neg (by rw[h.2];decide),g.1,hm];simp only[Mb,g.2];rfl
 rw[Gr,e]
def Bw(w:lU):A4:=A4.er ⟨5,1,1,0,w⟩
theorem On(y:lU):DS ([40,100,111,32]++y)=(DS y).map ([Bo,Bw [100,111]] ++ ·):=by
 have e:[40,100,111,32]++y=40::(100::([111]++32::y)):=rfl;rw[e,Ge,LS (k:=5) (nm:=0) (tx:=[100,111]) dC dC dC (by rfl),Ie]
 cases DS y with
 |none=>rfl
 |some t=>rfl
theorem lI{y:lU}{D:List A4}(h:DS ([40,100,111,32]++y)=some D):∃t2,DS y=some t2∧D=[Bo,Bw [100,111]]++t2:=by
 rw[On] at h
 cases F:DS y with
 |none=>rw[F] at h;cases h
 |some t=>rw[F] at h;cases h;exact⟨t,C,C⟩
variable {bk:Fo}{post pre:List A4}{n:Nat}
theorem KL{F:Fo}{x:Nd}(h:AA (Cj n) (.cons Bo (.cons (Bw [100,111]) .nil F) .nil)=.ok x):∃b bk E,F=.cons b bk .nil∧AO n b bk=.ok E∧x=(Av Bo 46 [] E.one).one:=by
 unfold AA at h
 split at h
 · cases h
 · rename_i a D
   simp only[AA] at h
   cases h
   cases F with
   |nil=>cases D
   |cons b bk r =>
     cases r with
     |cons _ _ _=>cases D
     |nil =>
       have e:Cj n Bo (.cons (Bw [100,111]) .nil (.cons b bk .nil))=match AO n b bk with
         |.error e=>.error e
         |.ok x=>.ok (Av Bo 46 [] x.one):=rfl
       rw[e] at D
       cases G:AO n b bk with
       |error e=>rw[G] at D;cases D
       |ok E =>
         rw[G] at D
         cases D
         exact⟨b,bk,E,C,G,C⟩
theorem VA{ts:List A4}{F:Fo}(h:NX ts [] .nil=some ([],F))(st:List (A4×Fo))(cur:Fo)(D:∀l,Ar (pre++l) [] .nil=Ar l st cur):Ar (pre++(ts++post)) [] .nil=Ar post st (cur.cat F)∨∃e,Ar (pre++(ts++post)) [] .nil=.error e:=by
 rw[D];exact Mo h st cur post
theorem oB(one:A4)(h:(one.k==0)=false)(D:(one.k==1)=false)(l:List A4):Ar ([Bo,Bw [100,111],Bo,Bw [115,101,113],one]++l) [] .nil=Ar l [(Bo,.cons (Bw [100,111]) .nil .nil),(Bo,.nil)] (.cons (Bw [115,101,113]) .nil (.cons one .nil .nil)):=by
 show Ar (one::l) [(Bo,.cons (Bw [100,111]) .nil .nil),(Bo,.nil)] (.cons (Bw [115,101,113]) .nil .nil)=_;simp only[Ar,h,D,Bool.false_eq_true,if_false];rfl
theorem Zm(l:List A4):Ar ([Bo,Bw [100,111],Bo,Bw [116,114,97,110,115,97,99,116]]++l) [] .nil=Ar l [(Bo,.cons (Bw [100,111]) .nil .nil),(Bo,.nil)] (.cons (Bw [116,114,97,110,115,97,99,116]) .nil .nil):=rfl
theorem oC(l:List A4):Ar ([Bo,Bw [100,111],Bo,Bo,Bw [102,110],Bo,Bw [120],K6,Bw [120],K6]++l) [] .nil=Ar l [(Bo,.cons (Bw [100,111]) .nil .nil),(Bo,.nil)] (.cons Bo (.cons (Bw [102,110]) .nil (.cons Bo (.cons (Bw [120]) .nil .nil) (.cons (Bw [120]) .nil .nil))) .nil):=rfl
theorem nS(l:List A4):Ar ([Bo,Bw [100,111],Bo,Bw [108,101,116],Bw [122,122,57]]++l) [] .nil=Ar l [(Bo,.cons (Bw [100,111]) .nil .nil),(Bo,.nil)] (.cons (Bw [108,101,116]) .nil (.cons (Bw [122,122,57]) .nil .nil)):=rfl
theorem dS{one b:A4}{x:Nd}(h:AA (Cj (n+1)) (.cons Bo (.cons (Bw [100,111]) .nil (.cons Bo (.cons (Bw [115,101,113]) .nil (.cons one .nil (.cons b bk .nil))) .nil)) .nil)=.ok x):∃y E,AO n one .nil=.ok y∧AO n b bk=.ok E∧x=(Av Bo 46 [] (Av Bo 12 [] (y.cons E.one)).one).one:=by
 obtain⟨b2,J,E2,K,D,rfl⟩:=KL h
 cases K
 have e:AO (n+1) Bo (.cons (Bw [115,101,113]) .nil (.cons one .nil (.cons b bk .nil)))=match AA (AO n) (.cons one .nil (.cons b bk .nil)) with
   |.error e=>.error e
   |.ok L=>.ok (Av Bo 12 [] L):=rfl
 rw[e] at D;simp only[AA] at D
 cases F:AO n one .nil with
 |error e=>rw[F] at D;cases D
 |ok y =>
   rw[F] at D
   cases G:AO n b bk with
   |error e=>rw[G] at D;cases D
   |ok E =>
     rw[G] at D
     cases D
     exact⟨y,E,C,C,C⟩
theorem W5{b:A4}{x:Nd}(h:AA (Cj (n+1)) (.cons Bo (.cons (Bw [100,111]) .nil (.cons Bo (.cons (Bw [116,114,97,110,115,97,99,116]) .nil (.cons b bk .nil)) .nil)) .nil)=.ok x):∃E,AO n b bk=.ok E∧x=(Av Bo 46 [] (Av Bo 17 [] E.one).one).one:=by
 obtain⟨b2,G,E2,J,D,rfl⟩:=KL h
 cases J
 have e:AO (n+1) Bo (.cons (Bw [116,114,97,110,115,97,99,116]) .nil (.cons b bk .nil))=match AO n b bk with
   |.error e=>.error e
   |.ok x=>.ok (Av Bo 17 [] x.one):=rfl
 rw[e] at D
 cases F:AO n b bk with
 |error e=>rw[F] at D;cases D
 |ok E =>
   rw[F] at D
   cases D
   exact⟨E,C,C⟩
def AX(f v:Int):Bool:=decide (0<v)&&decide (v≤f)
theorem Pt{f f':Int}(h:f≤f'){v:Int}(D:AX f v=true):AX f' v=true:=by
 simp only[AX,Bool.and_eq_true,decide_eq_true_eq] at D ⊢;omega
theorem Fk{f f':Int}(h:f≤f'){x:Ty}(D:x.on (AX f)=true):x.on (AX f')=true:=EY (λ_=>Pt h) x D
def Ea(p:Int→Bool)(b:Bk):Prop:=∀n t,A8 b n=some t→p n=true∧t.one.on p=true
theorem CG{p:Int→Bool}{tx:lU}{k:Ty}:(T1.con tx k).one.on p=k.on p:=by simp[T1.one,T1.cons,Ty.on]
theorem Cd{p:Int→Bool}{n:Int}:(T1.var n).one.on p=p n:=by simp[T1.one,T1.cons,Ty.on]
theorem NO{p:Int→Bool}{y:Ty}(h:y.on p=true)(D:0<y.len):y.hd.one.on p=true:=by
 cases y with
 |nil=>cases D
 |var n r=>simp only[Ty.on,Bool.and_eq_true] at h;exact Cd.trans h.1
 |con tx k r=>simp only[Ty.on,Bool.and_eq_true] at h;exact CG.trans h.1
theorem XK{p:Int→Bool}{y:Ty}(h:y.on p=true):y.tl.on p=true:=by
 cases y with
 |nil=>rfl
 |var n r=>simp only[Ty.on,Bool.and_eq_true] at h;exact h.2
 |con tx k r=>simp only[Ty.on,Bool.and_eq_true] at h;exact h.2
theorem Rf{y:Ty}(h:0<y.len):y.tl.len+1=y.len:=by cases y <;> first|cases h|rfl
section
variable{p:Int→Bool}{b b2:Bk}
theorem Ea.imp{q:Int→Bool}(h:∀n,p n=true→q n=true)(D:Ea p b):Ea q b:=λn t F=>⟨h n (D n t F).1,EY h _ (D n t F).2⟩
theorem TH(D:Ea p b):∀(k:Nat)(t:T1),t.one.on p=true→(G9 b k t).one.on p=true
 |0,_,h=>h
 |_+1,.con _ _,h=>h
 |k+1,.var n,h=>by
   unfold G9;simp only
   cases F:A8 b n with
   |none=>exact h
   |some t=>exact TH D k t (D n t F).2
theorem FA(D:Ea p b){t:T1}(h:t.one.on p=true):(Af b t).one.on p=true:=TH D _ t h
theorem QT(F:Ea p b){n:Int}{t:T1}(G:p n=true)(J:t.one.on p=true)(h:BG b n t=.ok b2):Ea p b2:=by
 unfold BG at h
 split at h
 · split at h
   · cases h
     intro m u D;unfold A8 at D
     split at D
     · rename_i e;cases D;exact⟨eq_of_beq e▸G,J⟩
     · exact F m u D
   · cases h
 · cases h
theorem Qp{f:Bk→Ty→Ty→Except Int Bk}(D:∀ {b b2:Bk} {x y:Ty},Ea p b→x.on p=true→y.on p=true→x.len=y.len→f b x y=.ok b2→Ea p b2)(F:Ea p b){x y:T1}{r q:Ty}
   (G:x.one.on p=true) (O:y.one.on p=true) (J:r.on p=true) (K:q.on p=true) (Q:r.len=q.len) (h:BV f b x y r q=.ok b2):Ea p b2:=by
 cases x with
 |var n =>
   rw[Cd] at G
   cases y with
   |var m =>
     simp only[BV] at h
     split at h
     · exact D F J K Q h
     · split at h
       · cases h
       · rename_i L;exact D (QT F G O L) J K Q h
   |con ty U =>
     simp only[BV] at h
     split at h
     · cases h
     · rename_i L;exact D (QT F G O L) J K Q h
 |con tx ka =>
   cases y with
   |var m =>
     simp only[BV] at h
     split at h
     · cases h
     · rename_i L;exact D (QT F (Cd.symm.trans O) G L) J K Q h
   |con ty U =>
     simp only[BV] at h
     split at h
     · cases h
     · rename_i e
       rw[Bool.or_eq_true,not_or] at e;have W:ka.len=U.len:=by have:=e.2;simp only[bne_iff_ne,ne_eq,Decidable.not_not] at this;omega
       exact D F (Hs _ _ (CG.symm.trans G) J) (Hs _ _ (CG.symm.trans O) K) (by rw[Ty.len_app,Ty.len_app];omega) h
theorem MN:∀(k:Nat){b b2:Bk}{x y:Ty},Ea p b→x.on p=true→y.on p=true→x.len=y.len→Bz k b x y=.ok b2→Ea p b2
 |k,b,b2,.nil,y,D,_,_,_,h=>by
   have K:Bz k b .nil y=.ok b:=by cases k <;> rfl
   rw[K] at h;cases h;exact D
 |0,_,_,.var _ _,_,_,_,_,_,h=>by cases h
 |0,_,_,.con _ _ _,_,_,_,_,_,h=>by cases h
 |k+1,b,b2,.var n r,y,D,F,G,J,h=>by
   simp only[Ty.on,Bool.and_eq_true] at F;have J:r.len+1=y.len:=J;have L:=Rf (y:=y) oM;simp only[Bz] at h;exact Qp (λa1 a2 a3 a4 a5=>MN k a1 a2 a3 a4 a5) D (FA D (Cd.trans F.1)) (FA D (NO G oM)) F.2 (XK G) oM h
 |k+1,b,b2,.con tx ka r,y,D,F,G,J,h=>by
   simp only[Ty.on,Bool.and_eq_true] at F;have J:r.len+1=y.len:=J;have L:=Rf (y:=y) oM;simp only[Bz] at h;exact Qp (λa1 a2 a3 a4 a5=>MN k a1 a2 a3 a4 a5) D (CG.trans F.1) (FA D (NO G oM)) F.2 (XK G) oM h
theorem Ii(D:Ea p b):∀(k:Nat)(x:Ty),x.on p=true→(AE b k x).on p=true
 |k,.nil,_=>by cases k <;> rfl
 |0,.var _ _,_=>rfl
 |0,.con _ _ _,_=>rfl
 |k+1,.con tx G r,h=>by
   simp only[Ty.on,Bool.and_eq_true] at h;simp only[AE,Ty.on,Ii D k G h.1,Ii D k r h.2,Bool.and_true]
 |k+1,.var n r,h=>by
   simp only[Ty.on,Bool.and_eq_true] at h;have F:=FA D (t:=.var n) (Cd.trans h.1);simp only[AE]
   split
   · rename_i m hm;rw[hm,Cd] at F;simp only[Ty.on,F,Ii D k r h.2,Bool.and_true]
   · rename_i tx G hm;rw[hm,CG] at F;simp only[Ty.on,Ii D k G F,Ii D k r h.2,Bool.and_true]
theorem GV:∀(k:Nat)(x:Ty),By b k x=true→(AE b k x).len=x.len
 |k,.nil,_=>by cases k <;> rfl
 |0,.var _ _,h=>by cases h
 |0,.con _ _ _,h=>by cases h
 |k+1,.con tx D r,h=>by
   simp only[By] at h;simp only[AE,Ty.len,GV k r (Lb h)]
 |k+1,.var n r,h=>by
   simp only[By] at h;simp only[AE]
   split
   · rename_i m hm;rw[hm] at h;simp only[Ty.len,GV k r h]
   · rename_i tx D hm;rw[hm] at h;simp only[Ty.len,GV k r (Lb h)]
theorem Lq(D:Ea p b){t f:T1}(F:t.one.on p=true)(h:fullS b t=some f):f.one.on p=true:=by
 unfold fullS at h
 split at h
 · rename_i G
   cases h
   refine NO (Ii D _ _ F) ?_;rw[GV _ _ G]
   cases t <;> exact Nat.zero_lt_succ _
 · cases h
end
theorem Hc:∀(x:Ty)(l:List Int)(v:Int),l.contains v=true→(BZ x l).contains v=true
 |.nil,_,_,h=>h
 |.var n r,l,v,h=>Hc r _ v (by split;exact h;simp only[List.contains_iff_mem] at h ⊢;exact List.mem_append_left _ h)
 |.con _ k r,l,v,h=>Hc r _ v (Hc k l v h)
theorem L0:∀(x:Ty)(l:List Int),x.on (λv=>(BZ x l).contains v)=true
 |.nil,_=>rfl
 |.var n r,l=>by
   simp only[Ty.on,Bool.and_eq_true];refine⟨Hc r _ n ?_,L0 r _⟩
   split
   · assumption
   · simp
 |.con _ k r,l=>by
   simp only[Ty.on,Bool.and_eq_true];exact⟨EY (λv h=>Hc r _ v h) k (L0 k l),L0 r _⟩
theorem Oh{p q:Int→Bool}:∀x:Ty,x.on p=true→x.on q=true→x.on (λv=>p v&&q v)=true
 |.nil,_,_=>rfl
 |.var n r,h,D=>by simp only[Ty.on,Bool.and_eq_true] at h D ⊢;exact⟨⟨h.1,D.1⟩,Oh r h.2 D.2⟩
 |.con _ k r,h,D=>by simp only[Ty.on,Bool.and_eq_true] at h D ⊢;exact⟨Oh k h.1 D.1,Oh r h.2 D.2⟩
theorem We{p:Int→Bool}:∀(x:Ty)(i:Nat),x.on p=true→i<x.len→∃t,x.get i=some t∧t.one.on p=true
 |.var n r,0,h,_=>by simp only[Ty.on,Bool.and_eq_true] at h;exact⟨_,C,Cd.trans h.1⟩
 |.con tx k r,0,h,_=>by simp only[Ty.on,Bool.and_eq_true] at h;exact⟨_,C,CG.trans h.1⟩
 |.var n r,i+1,h,D=>by simp only[Ty.on,Bool.and_eq_true] at h;exact We r i h.2 (Nat.lt_of_succ_lt_succ D)
 |.con tx k r,i+1,h,D=>by simp only[Ty.on,Bool.and_eq_true] at h;exact We r i h.2 (Nat.lt_of_succ_lt_succ D)
theorem WL{n:Int}:∀{l:List Int}{i:Nat},C1 l n=some i→i<l.length
 |k::l,i,h=>by
   unfold C1 at h
   split at h
   · cases h;exact Nat.zero_lt_succ _
   · cases D:C1 l n with
     |none=>rw[D] at h;cases h
     |some j=>rw[D] at h;cases h;exact Nat.succ_lt_succ (WL D)
theorem LW{p:Int→Bool}{l:List Int}{y:Ty}(D:y.on p=true)(F:y.len=l.length):∀x:Ty,x.on (λv=>p v||l.contains v)=true→(C2 l y x).on p=true
 |.nil,_=>rfl
 |.con tx k r,h=>by
   simp only[Ty.on,Bool.and_eq_true] at h;simp only[C2,Ty.on,LW D F k h.1,LW D F r h.2,Bool.and_true]
 |.var n r,h=>by
   simp only[Ty.on,Bool.and_eq_true,Bool.or_eq_true] at h;have G:=LW D F r h.2;simp only[C2]
   cases J:C1 l n with
   |none =>
     have K:=MR J;rw[K] at h;simp only[Option.bind_none,Ty.on,G,Bool.and_true];exact h.1.resolve_right dC
   |some i =>
     obtain⟨t,L,O⟩:=We y i D (by have:=WL J;omega);simp only[Option.bind_some,L];exact L2 O G
theorem Jo{l:List Int}{y:Ty}:∀x:Ty,(C2 l y x).len=x.len
 |.nil=>rfl
 |.con tx k r=>by simp only[C2,Ty.len,Jo r]
 |.var n r=>by
   simp only[C2]
   split
   · rename_i t _;cases t <;> simp only[T1.cons,Ty.len,Jo r]
   · simp only[Ty.len,Jo r]
theorem Ub{p:Int→Bool}{l:List Int}{y:Ty}(D:y.on p=true)(F:y.len=l.length){t:T1}(h:t.one.on (λv=>p v||l.contains v)=true):(Cf t l y).one.on p=true :=
 NO (LW D F _ h) (by rw[Jo];cases t <;> exact Nat.zero_lt_succ _)
theorem LU:∀(l:List Int)(s:CS),0≤s.fresh→(AL l s).1.on (AX (AL l s).2.fresh)=true∧(AL l s).1.len=l.length∧(AL l s).2.fresh=s.fresh+l.length∧(AL l s).2.sol=s.sol∧(AL l s).2.cons=s.cons
 | [],s,_=>⟨C,C,by simp[AL],C,C⟩
 |_::l,s,h=>by
   obtain⟨F,G,D,J,K⟩:=LU l (Au s).2 (by show 0≤s.fresh+1;omega);have D:(AL l (Au s).2).2.fresh=s.fresh+1+l.length:=D;refine⟨?_,by simp only[AL,Au,T1.cons,Ty.len,List.length_cons] at G ⊢;omega,by simp only[AL,List.length_cons] at D ⊢;omega,J,K⟩;show (Ty.var (s.fresh+1) _).on _=true;simp only[Ty.on,Bool.and_eq_true];refine⟨?_,F⟩;show AX (AL l (Au s).2).2.fresh _=true;rw[D];simp only[AX,Bool.and_eq_true,decide_eq_true_eq];omega
end Go.SP
