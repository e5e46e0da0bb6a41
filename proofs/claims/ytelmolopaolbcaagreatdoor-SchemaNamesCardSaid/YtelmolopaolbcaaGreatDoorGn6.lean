/- What it rests on, part 6. -/
import Derived.Test.YtelmolopaolbcaaGreatDoorGn5
import Derived.Test.YtelmolopaolbcaaGreatDoorCards
import Derived.Test.YtelmolopaolbcaaGreatDoorTie
import Derived.OpenShut
import Derived.Lib.LaidU8
import Derived.Clock
import Derived.ProofKit
import Derived.Lay
import Derived.Stop.Joined
import Derived.Deep.DeepHandedRow
import Derived.ChangeSame
import Derived.ChangeMaps5
import Derived.Carry
import Derived.Deep.Slices
import Derived.ReadAgain
import Derived.ChangeBook
import Derived.Deep.Matrix
set_option linter.unusedVariables false
set_option linter.unusedSimpArgs false
namespace Go.Proofs.YtelmolopaolbcaaGreatDoor
open Go.SW Go.SP Go.RowKit Go.Proofs.Tryz
abbrev A16:=Nat×Nat×Nat×Nat×(oA×Nat)×(oA×Nat)
abbrev Q3:=T1×oA×Nat
abbrev qI:Q3:=(c0 bI,none,0)
abbrev qF:Q3:=(c0 bF,none,0)
abbrev qS:Q3:=(c0 bS,none,0)
abbrev qB:Q3:=(c0 bB,none,0)
abbrev qU:Q3:=(c0 bU,none,0)
abbrev qV:Q3:=(.var 1,none,0)
abbrev qR(a:oA)(c:Nat):Q3:=(T1.con Ig (T1.var 1).one,a,c)
abbrev qP(a:oA)(c:Nat):Q3:=(T1.con BP (T1.var 1).one,a,c)
def pm(x:lU)(l:List Q3):TJ:=(x,((Uy l).len:Int)-1,Ih (Uy l))
theorem kI:(c0 bI).bnd:=Da dC
theorem kF:(c0 bF).bnd:=Da dC
theorem kS:(c0 bS).bnd:=Da dC
theorem kB:(c0 bB).bnd:=Da dC
theorem kU:(c0 bU).bnd:=Da dC
theorem kV:(T1.var 1).bnd:=Bw _
variable {Q:AX}{σ:Bf}{f:Fq}{ds:List Deferred}{B:List FB}{fs:List Fr}{H H':List HB}{xs:lV}{b d n n0 ob oc:Nat}{M:Nat→Prop}{g:Option (Nat×Bool)}{oa:oA}{T:tI}{w w0:wO}
theorem qN:Ak w f .nil none 0:=Ak.nil _ _ _ _
def V7:List Nat→Nat→Bool
 | [],_=>false
 |a::l,b=>bif Nat.beq a b then true else V7 l b
def sU(c:Bool)(d:Nat)(v:Value)(σ:Bf):Bf:=bif c then AF σ d v else σ
def sL{α:Type}(c:Bool)(e:α)(l:List α):List α:=bif c then e::l else l
def LS(b1 b2 b3 b4 b5 b6:Nat)(S:List Nat)(x:A16):Bf :=
 sU (V7 S 7) 8 (pB x.2.2.2.1)<|sU (V7 S 6) 7 (pB x.2.2.1)<|sU (V7 S 5) 22 (tV (T1.con BP (T1.var 1).one) x.2.2.2.2.2.1 x.2.2.2.2.2.2)<|sU (V7 S 2) 19 (tV (T1.con Ig (T1.var 1).one) x.2.2.2.2.1.1 x.2.2.2.2.1.2) <|
 sU (V7 S 4) 21 (.slice (some ⟨x.2.1,0,none⟩) 1 1)<|sU (V7 S 1) 18 (.slice (some ⟨x.1,0,none⟩) 1 1)<|E8 1 (pB b1) 2 (pB b2) 3 (pB b3) 4 (pB b4) 5 (pB b5) 6 (pB b6) 17 (tV (.var 1) none 0) 20 (tV (.var 1) none 0)
def DR(b1 b2 b3 b4 b5 b6:Nat)(S:List Nat)(x:A16):List HB :=
 sL (V7 S 7) ⟨x.2.2.2.1,zT,76,true⟩<|sL (V7 S 6) ⟨x.2.2.1,zT,76,true⟩<|sL (V7 S 4&&!V7 S 5) ⟨x.2.1,tC (.var 1) none 0,76,true⟩<|sL (V7 S 1&&!V7 S 2) ⟨x.1,tC (.var 1) none 0,76,true⟩ [⟨b6,tC (.var 1) none 0,76,true⟩,⟨b5,tC (c0 bU) none 0,76,true⟩,⟨b4,tC (c0 bB) none 0,76,true⟩,⟨b3,tC (c0 bS) none 0,76,true⟩,⟨b2,tC (c0 bF) none 0,76,true⟩,⟨b1,tC (c0 bI) none 0,76,true⟩]
def f16(S:List Nat)(x:A16):List (wO→Fq→Prop) :=
 sL (V7 S 5) (λw f=>Ak w f (T1.var 1).one x.2.2.2.2.2.1 x.2.2.2.2.2.2)<|sL (V7 S 2) (λw f=>Ak w f (T1.var 1).one x.2.2.2.2.1.1 x.2.2.2.2.1.2) [λw f=>FI w f]
def Ck:List TJ:=[pm [43] [qI,qI,qI],pm [45] [qI,qI,qI],pm [42] [qI,qI,qI],pm [100,105,118] [qI,qI,qI],pm [109,111,100] [qI,qI,qI],pm [110,101,103] [qI,qI],pm [60] [qI,qI,qB],pm [60,61] [qI,qI,qB],pm [61] [qI,qI,qB],pm [102,43] [qF,qF,qF],pm [102,45] [qF,qF,qF],pm [102,42] [qF,qF,qF],pm [102,47] [qF,qF,qF],pm [102,115,113,114,116] [qF,qF],pm [102,110,101,103] [qF,qF],pm [102,60] [qF,qF,qB],pm [102,61] [qF,qF,qB],pm [102,97,104,101,97,100] [qF,qF,qB],pm [105,116,111,102] [qI,qF],pm [102,116,111,105] [qF,qI],pm [102,98,105,116,115] [qF,qS],pm [110,97,110] [qF],pm [105,110,102] [qF],pm [99,97,116] [qS,qS,qS],pm [108,101,110] [qS,qI],pm [111,114,100] [qS,qI],pm [97,116,111,105] [qS,qI],pm [115,117,98] [qS,qI,qI,qS],pm [115,61] [qS,qS,qB],pm [115,60] [qS,qS,qB],pm [105,116,111,97] [qI,qS],pm [99,104,114] [qI,qS],pm [112,114,105,110,116] [qS,qU],pm [114,101,97,100] [qU,qS],pm [114,101,102] [qV,(qR none 0)],pm [103,101,116] [(qR none 0),qV],pm [115,101,116] [(qR none 0),qV,qU],pm [110,101,119] [qV,(qP none 0)],pm [108,111,97,100] [(qP none 0),qV],pm [115,116,111,114,101] [(qP none 0),qV,qU]]
def dN:List (T1×oA×Nat)→Prop
 | []=>True
 |t::l=>t.1.bnd∧dN l
theorem QQ:∀{l:List (T1×oA×Nat)},dN l→(Uy l).bnd
 | [],_=>trivial
 |_::_,h=>T1.bnd_cons.2 ⟨h.1,QQ h.2⟩
theorem Hm{f0:Fq}{L:List (wO→Fq→Prop)}{all r:List Oper}{O:Operand}{args:List Operand}{ts:Array tI}{ty:tI}{pos:String}{af:Array Edge}{G:lU}(U K:Nat)(D:List Q3)
  (Y:ev σ O=some (.func (.func 81) #[] [Value.pointer (some ⟨ob,0,none⟩)].toArray)) (Z:Jd σ args=some [S G,.slice (some ⟨b,0,none⟩) D.length D.length]) (hg:gd all σ g=some true) (hd:Nat.blt d n=true) (hk:Ib H U=some ⟨b,yG D,T,true⟩) (hs:Lo H U=some H')
  (hG:∀w f H B,AQ ⟨M,Pw ob oa,DW 121 124 ob (.slice oa n0 oc) oa oc n0 xs,w0,f0⟩ w f H [] B ((λw f=>Db w f (Ck.take n0) xs)::L)→FI w f∧hoL w f D) (hbd:dN D)
  (h:∀a c xs,A3 prog n Q ds ⟨M,Pw ob a,DW 121 124 ob (.slice a K c) a c K xs,w0,f0⟩ [] B ((λw f=>Db w f (Ck.take K) xs)::L) (.ops all r) fs (AF σ d (.tuple #[])) H')
  (hp:Ck.take n0++(Lib.fields G).map (λnm=>(nm,((Uy D).len:Int)-1,Ih (Uy D)))=Ck.take K:=by kernel_rfl) (hn:n0+(Lib.fields G).length=K:=by kernel_rfl)
  (hc:(Nat.ble n0 1000&&(Nat.ble G.length 1000&&(G.all (λc=>decide (c.toNat<128))&&(Nat.ble (Lib.fields G).length 1000&&(Nat.blt 0 D.length&&Nat.ble D.length 1000)))))=true:=by kernel_rfl) :
  A3 prog n Q ds ⟨M,Pw ob oa,DW 121 124 ob (.slice oa n0 oc) oa oc n0 xs,w0,f0⟩ [] B ((λw f=>Db w f (Ck.take n0) xs)::L) (.ops all (⟨some d,.call {callee:=.value O,args:=args.toArray,argTypes:=ts},ty,pos,af,g⟩::r)) fs σ H:=by
 simp only[Bool.and_eq_true] at hc;obtain⟨h1,h2,h3,h4,h5,h6⟩:=hc;have e:=QL D;have h5':0<(Uy D).len:=by rw[e];exact Nat.le_of_ble_eq_true h5
 have h6':(Uy D).len≤1000:=by rw[e];exact Nat.le_of_ble_eq_true h6
 subst hn;have he':∀w,SW.Enters prog σ (.call {callee:=.value O,args:=args.toArray,argTypes:=ts}) ty w 81 #[S G,.slice (some ⟨b,0,none⟩) (Uy D).len D.length,pB ob]:=by rw[e];exact λ_=>UG uO Y Z
 refine Dc U hk hs<|D5 (λw f=>Ak w f (Uy D) (some ⟨b,0,none⟩) D.length) (λw f F=>Dg (hG w f _ _ F).2 F.b0) Ak.mono<|Wf (XX:=λ_ _=>False) hg hd he' (λw f F=>(eU w f F.vl (hG w f _ _ (F.less sR sR (λ_ h=>h) (λ_ h=>.tail _ h))).1 ob oa oc n0 xs (Ck.take n0) F.res F.f1 F.mz (Nat.le_of_ble_eq_true h1) G (Lib.fields G) C (Nat.le_of_ble_eq_true h2) h3 (Nat.le_of_ble_eq_true h4) (Uy D) (some ⟨b,0,none⟩) D.length h5' h6' (QQ hbd) F.f0).retP) (λ_=>DW.stab) (λ_=>⟨Db.mono,tQ⟩) (λ_ _ _ _ _ h=>h.elim) ?_;rintro⟨a,c,xs'⟩ -;refine λw f F=>h a c xs' w f ?_;rw[← hp];refine F.less sR sR (λe he=>.tail _ he) (λφ J=>?_);rcases List.mem_cons.1 J with rfl|J
 · exact .head _
 · exact .tail _ (.tail _ (.tail _ J))
def Ul:OT:=.br 9 .fin .fin
def IH:OT:=.br 8 Ul .fin
def I7:OT:=.br 5 IH .fin
def JN:OT:=.br 2 I7 .fin
def Na:OT:=.br 1 JN .fin
def LK:OT:=.br 4 I7 .fin
def Nf:OT:=.br 2 LK (.br 4 JN .fin)
def UA:OT:=.br 1 Nf (.br 4 Na .fin)
def LX:OT:=.br 6 IH .fin
def LQ:OT:=.br 5 LX (.br 6 I7 .fin)
def Nr:OT:=.br 2 LQ (.br 6 JN .fin)
def UB:OT:=.br 1 Nr (.br 6 Na .fin)
def Sf:OT:=.br 4 LQ (.br 6 LK .fin)
def U7:OT:=.br 2 Sf (.br 4 Nr (.br 6 Nf .fin))
def pS:OT:=.br 1 U7 (.br 4 UB (.br 6 UA .fin))
def M9:OT:=.br 7 IH .fin
def Lt:OT:=.br 5 M9 (.br 7 I7 .fin)
def Ng:OT:=.br 2 Lt (.br 7 JN .fin)
def UU:OT:=.br 1 Ng (.br 7 Na .fin)
def QM:OT:=.br 4 Lt (.br 7 LK .fin)
def Vy:OT:=.br 2 QM (.br 4 Ng (.br 7 Nf .fin))
def pH:OT:=.br 1 Vy (.br 4 UU (.br 7 UA .fin))
def To:OT:=.br 6 M9 (.br 7 LX .fin)
def Sb:OT:=.br 5 To (.br 6 Lt (.br 7 LQ .fin))
def VX:OT:=.br 2 Sb (.br 6 Ng (.br 7 Nr .fin))
def qX:OT:=.br 1 VX (.br 6 UU (.br 7 UB .fin))
def aA:OT:=.br 4 Sb (.br 6 QM (.br 7 Sf .fin))
def oW:OT:=.br 2 aA (.br 4 VX (.br 6 Vy (.br 7 U7 .fin)))
def zM:OT:=.br 1 oW (.br 4 qX (.br 6 pH (.br 7 pS .fin)))
set_option maxHeartbeats 2000000 in
theorem Wb(w:wO)(f:Fq)(hv:Vl w f)(hG:FI w f) :
  Bq prog 54 #[] w (B3 (α:=oA×Nat) (λx=>.slice x.1 Ck.length x.2) (λ_=>True) (λx=>[λw f=>V9 w f Ck x.1 x.2]) w f):=by
 refine Cw (X:=X0 w f) (H:=[]) (R:=[]) (B:=[]) (Fs:=[λw f=>FI w f]) (f:=f) func54 C C C (Ci hv ⟨hG,tQ⟩ ⟨FI.mono,tQ⟩)<|Aa 7 [] (λ_=>Bt C C (eC Bu C C) (λw f D=>Bo w f D.vl [105,110,116]) (λx=>trivial) ?_);rintro⟨⟩ -;refine Bt C C (eC Bu C C) (λw f D=>Bo w f D.vl [102,108,111,97,116]) (λx=>trivial) ?_;rintro⟨⟩ -;refine Bt C C (eC Bu C C) (λw f D=>Bo w f D.vl [115,116,114,105,110,103]) (λx=>trivial) ?_;rintro⟨⟩ -;refine Bt C C (eC Bu C C) (λw f D=>Bo w f D.vl [98,111,111,108]) (λx=>trivial) ?_;rintro⟨⟩ -;refine Bt C C (eC Bu C C) (λw f D=>Bo w f D.vl [117,110,105,116]) (λx=>trivial) ?_;rintro⟨⟩ -;refine Aa 14 [4,3,2,1,0] (λb1=>λb2=>λb3=>λb4=>λb5=>y<|y<|y<|y<|y<|λ_=>Bt C C (eC Hx C C) (λw f D=>DV w f D.vl 1) (λx=>trivial) ?_);rintro⟨⟩ -;refine Aa 5 [0] (λb6=>y<|λ_=>?_);refine Po (α:=Nat×Nat×(oA×Nat)×(oA×Nat)) (λx=>True) (λx=>(E8 1 (pB b1) 2 (pB b2) 3 (pB b3) 4 (pB b4) 5 (pB b5) 6 (pB b6) 7 (pB x.1) 8 (pB x.2.1))) (λx=>X0 w f) (λx=>[⟨x.2.1,tC (T1.con BP (T1.var 1).one) x.2.2.2.1 x.2.2.2.2,76,true⟩,⟨x.1,tC (T1.con Ig (T1.var 1).one) x.2.2.1.1 x.2.2.1.2,76,true⟩,⟨b6,tC (.var 1) none 0,76,true⟩,⟨b5,tC (c0 bU) none 0,76,true⟩,⟨b4,tC (c0 bB) none 0,76,true⟩,⟨b3,tC (c0 bS) none 0,76,true⟩,⟨b2,tC (c0 bF) none 0,76,true⟩,⟨b1,tC (c0 bI) none 0,76,true⟩]) (λx=>[]) (λx=>[]) (λx=>[λw f=>Ak w f (T1.var 1).one x.2.2.2.1 x.2.2.2.2,λw f=>Ak w f (T1.var 1).one x.2.2.1.1 x.2.2.1.2,λw f=>FI w f]) ?_ ?_;refine CF [0,1,2,3,4,5] Al (.rd 0 (.rd 3 zM)) C kR<|A2 2 [0,0] (y<|y<|λ_=>LU IH (LS b1 b2 b3 b4 b5 b6 [1,2,4,5,6,7]) (DR b1 b2 b3 b4 b5 b6 [1,2,4,5,6,7]) (λ_=>[]) (f16 [1,2,4,5,6,7]) ?_ (λY=>?_))
 ·
  rintro⟨F,G,b7,O,⟨L,rc⟩,⟨J,K⟩⟩;refine Ag C ?_ Aj;refine Aa 2 [1] (y<|λ_=>Au [2,3,4,5,6,7] C<|Ag C ?_ Aj);exact Aa 2 [0] (y<|λ_=>Au [2,3,4,5,6,7] C<|Bm<|IB (b7,O,(L,rc),(J,K)) tQ lE (λw f D=>⟨f,D⟩))
 refine LU LX (LS b1 b2 b3 b4 b5 b6 [1,2,4,5,7]) (DR b1 b2 b3 b4 b5 b6 [1,2,4,5,7]) (λ_=>[]) (f16 [1,2,4,5,7]) ?_ (λhS12457=>?_)
 ·
  rintro⟨F,G,b7,O,⟨L,rc⟩,⟨J,K⟩⟩;refine Ag C ?_ Aj;exact Aa 2 [] (λq=>λ_=>Au [2,3,4,5,6,7] C<|Fk Y (F,G,q,O,(L,rc),(J,K)) lE (λw f D=>D.perm (List.perm_middle (l₁:=[_]))))
 refine LU M9 (LS b1 b2 b3 b4 b5 b6 [1,2,4,5,6]) (DR b1 b2 b3 b4 b5 b6 [1,2,4,5,6]) (λ_=>[]) (f16 [1,2,4,5,6]) ?_ (λhS12456=>?_)
 ·
  rintro⟨F,G,b7,O,⟨L,rc⟩,⟨J,K⟩⟩;refine Ag C ?_ Aj;exact Aa 2 [] (λq=>λ_=>Au [2,3,4,5,6,7] C<|Fk Y (F,G,b7,q,(L,rc),(J,K)) lE (λw f D=>D))
 refine LU I7 (LS b1 b2 b3 b4 b5 b6 [1,2,4,6,7]) (DR b1 b2 b3 b4 b5 b6 [1,2,4,6,7]) (λ_=>[]) (f16 [1,2,4,6,7]) ?_ (λU=>?_)
 ·
  rintro⟨F,G,b7,O,⟨L,rc⟩,⟨J,K⟩⟩;refine Ag C ?_ Aj;refine Dc 2 C C<|D5 (λw f=>Ak w f (T1.var 1).one (some ⟨G,0,none⟩) 1) (λw f D=>Dg (l:=[(.var 1,none,0)]) ⟨Ak.nil _ _ _ _,tQ⟩ D.b0) Ak.mono<|Bt C C (eC Bu C C) (λw f D=>CN w f D.vl BP (T1.var 1).one (some ⟨G,0,none⟩) 1 dC D.f0) (λ_=>⟨Ak.mono,tQ⟩) ?_;rintro⟨qa,qc⟩ -;exact Aa 1 [] (λ_=>AY [2,3,4,5,6,7] Fl C (λ_ h=>.tail _ h)<|Fk Y (F,G,b7,O,(L,rc),(qa,qc)) lE (λw f D=>D.less sR sR nE (mR [0,2,3])))
 refine LU LQ (LS b1 b2 b3 b4 b5 b6 [1,2,4,7]) (DR b1 b2 b3 b4 b5 b6 [1,2,4,7]) (λ_=>[]) (f16 [1,2,4,7]) ?_ (λhS1247=>?_)
 ·
  rintro⟨F,G,b7,O,⟨L,rc⟩,⟨J,K⟩⟩;refine Ag C ?_ ?_;refine Dc 1 C C<|D5 (λw f=>Ak w f (T1.var 1).one (some ⟨G,0,none⟩) 1) (λw f D=>Dg (l:=[(.var 1,none,0)]) ⟨Ak.nil _ _ _ _,tQ⟩ D.b0) Ak.mono<|Bt C C (eC Bu C C) (λw f D=>CN w f D.vl BP (T1.var 1).one (some ⟨G,0,none⟩) 1 dC D.f0) (λ_=>⟨Ak.mono,tQ⟩) ?_;rintro⟨qa,qc⟩ -;exact Aa 1 [] (λ_=>AY [1,2,3,4,5,6] Fl C (λ_ h=>.tail _ h)<|Fk hS12457 (F,G,b7,O,(L,rc),(qa,qc)) lE (λw f D=>D.less sR sR nE (mR [0,2,3])));refine Ag C ?_ Aj;exact Aa 2 [] (λq=>λ_=>Au [3,4,5,6,7,8] C<|Fk U (F,G,q,O,(L,rc),(J,K)) lE (λw f D=>D.perm (List.perm_middle (l₁:=[_]))))
 refine LU LK (LS b1 b2 b3 b4 b5 b6 [1,2,6,7]) (DR b1 b2 b3 b4 b5 b6 [1,2,6,7]) (λ_=>[]) (f16 [1,2,6,7]) ?_ (λhS1267=>?_)
 ·
  rintro⟨F,G,b7,O,⟨L,rc⟩,⟨J,K⟩⟩;refine Ag C ?_ Aj;exact Aa 2 [] (λq=>λ_=>Au [3,4,5,6,7,8] C<|Fk U (F,q,b7,O,(L,rc),(J,K)) lE (λw f D=>D.perm (List.perm_middle (l₁:=[_,_]))))
 refine LU Lt (LS b1 b2 b3 b4 b5 b6 [1,2,4,6]) (DR b1 b2 b3 b4 b5 b6 [1,2,4,6]) (λ_=>[]) (f16 [1,2,4,6]) ?_ (λhS1246=>?_)
 ·
  rintro⟨F,G,b7,O,⟨L,rc⟩,⟨J,K⟩⟩;refine Ag C ?_ ?_;refine Dc 1 C C<|D5 (λw f=>Ak w f (T1.var 1).one (some ⟨G,0,none⟩) 1) (λw f D=>Dg (l:=[(.var 1,none,0)]) ⟨Ak.nil _ _ _ _,tQ⟩ D.b0) Ak.mono<|Bt C C (eC Bu C C) (λw f D=>CN w f D.vl BP (T1.var 1).one (some ⟨G,0,none⟩) 1 dC D.f0) (λ_=>⟨Ak.mono,tQ⟩) ?_;rintro⟨qa,qc⟩ -;exact Aa 1 [] (λ_=>AY [1,2,3,4,5,6] Fl C (λ_ h=>.tail _ h)<|Fk hS12456 (F,G,b7,O,(L,rc),(qa,qc)) lE (λw f D=>D.less sR sR nE (mR [0,2,3])));refine Ag C ?_ Aj;exact Aa 2 [] (λq=>λ_=>Au [3,4,5,6,7,8] C<|Fk U (F,G,b7,q,(L,rc),(J,K)) lE (λw f D=>D))
 refine LU To (LS b1 b2 b3 b4 b5 b6 [1,2,4,5]) (DR b1 b2 b3 b4 b5 b6 [1,2,4,5]) (λ_=>[]) (f16 [1,2,4,5]) ?_ (λhS1245=>?_)
 ·
  rintro⟨F,G,b7,O,⟨L,rc⟩,⟨J,K⟩⟩;refine Ag C ?_ ?_;exact Aa 2 [] (λq=>λ_=>Au [1,2,3,4,5,6] C<|Fk hS12456 (F,G,q,O,(L,rc),(J,K)) lE (λw f D=>D));refine Ag C ?_ Aj;exact Aa 2 [] (λq=>λ_=>Au [1,2,3,4,5,6] C<|Fk hS12457 (F,G,b7,q,(L,rc),(J,K)) lE (λw f D=>D))
 refine LU JN (LS b1 b2 b3 b4 b5 b6 [1,4,6,7]) (DR b1 b2 b3 b4 b5 b6 [1,4,6,7]) (λ_=>[]) (f16 [1,4,6,7]) ?_ (λZ=>?_)
 ·
  rintro⟨F,G,b7,O,⟨L,rc⟩,⟨J,K⟩⟩;refine Ag C ?_ Aj;refine Dc 3 C C<|D5 (λw f=>Ak w f (T1.var 1).one (some ⟨F,0,none⟩) 1) (λw f D=>Dg (l:=[(.var 1,none,0)]) ⟨Ak.nil _ _ _ _,tQ⟩ D.b0) Ak.mono<|Bt C C (eC Bu C C) (λw f D=>CN w f D.vl Ig (T1.var 1).one (some ⟨F,0,none⟩) 1 dC D.f0) (λ_=>⟨Ak.mono,tQ⟩) ?_;rintro⟨qa,qc⟩ -;exact Aa 1 [] (λ_=>AY [3,4,5,6,7,8] Fl C (λ_ h=>.tail _ h)<|Fk U (F,G,b7,O,(qa,qc),(J,K)) lE (λw f D=>D.less sR sR nE (mR [0,2])))
 refine LU Ng (LS b1 b2 b3 b4 b5 b6 [1,4,6]) (DR b1 b2 b3 b4 b5 b6 [1,4,6]) (λ_=>[]) (f16 [1,4,6]) ?_ (λhS146=>?_)
 ·
  rintro⟨F,G,b7,O,⟨L,rc⟩,⟨J,K⟩⟩;refine Ag C ?_ ?_;refine Dc 2 C C<|D5 (λw f=>Ak w f (T1.var 1).one (some ⟨F,0,none⟩) 1) (λw f D=>Dg (l:=[(.var 1,none,0)]) ⟨Ak.nil _ _ _ _,tQ⟩ D.b0) Ak.mono<|Bt C C (eC Bu C C) (λw f D=>CN w f D.vl Ig (T1.var 1).one (some ⟨F,0,none⟩) 1 dC D.f0) (λ_=>⟨Ak.mono,tQ⟩) ?_;rintro⟨qa,qc⟩ -;exact Aa 1 [] (λ_=>AY [2,3,4,5,6,7] Fl C (λ_ h=>.tail _ h)<|Fk hS1246 (F,G,b7,O,(qa,qc),(J,K)) lE (λw f D=>D.less sR sR nE (mR [0,2])));refine Ag C ?_ Aj;exact Aa 2 [] (λq=>λ_=>Au [4,5,6,7,8,9] C<|Fk Z (F,G,b7,q,(L,rc),(J,K)) lE (λw f D=>D))
 refine LU Nr (LS b1 b2 b3 b4 b5 b6 [1,4,7]) (DR b1 b2 b3 b4 b5 b6 [1,4,7]) (λ_=>[]) (f16 [1,4,7]) ?_ (λhS147=>?_)
 ·
  rintro⟨F,G,b7,O,⟨L,rc⟩,⟨J,K⟩⟩;refine Ag C ?_ ?_;refine Dc 2 C C<|D5 (λw f=>Ak w f (T1.var 1).one (some ⟨F,0,none⟩) 1) (λw f D=>Dg (l:=[(.var 1,none,0)]) ⟨Ak.nil _ _ _ _,tQ⟩ D.b0) Ak.mono<|Bt C C (eC Bu C C) (λw f D=>CN w f D.vl Ig (T1.var 1).one (some ⟨F,0,none⟩) 1 dC D.f0) (λ_=>⟨Ak.mono,tQ⟩) ?_;rintro⟨qa,qc⟩ -;exact Aa 1 [] (λ_=>AY [2,3,4,5,6,7] Fl C (λ_ h=>.tail _ h)<|Fk hS1247 (F,G,b7,O,(qa,qc),(J,K)) lE (λw f D=>D.less sR sR nE (mR [0,2])));refine Ag C ?_ Aj;exact Aa 2 [] (λq=>λ_=>Au [4,5,6,7,8,9] C<|Fk Z (F,G,q,O,(L,rc),(J,K)) lE (λw f D=>D.perm (List.perm_middle (l₁:=[_]))))
 refine LU Sf (LS b1 b2 b3 b4 b5 b6 [1,2,7]) (DR b1 b2 b3 b4 b5 b6 [1,2,7]) (λ_=>[]) (f16 [1,2,7]) ?_ (λhS127=>?_)
 ·
  rintro⟨F,G,b7,O,⟨L,rc⟩,⟨J,K⟩⟩;refine Ag C ?_ ?_;exact Aa 2 [] (λq=>λ_=>Au [2,3,4,5,6,7] C<|Fk hS1247 (F,q,b7,O,(L,rc),(J,K)) lE (λw f D=>D.perm (List.perm_middle (l₁:=[_]))));refine Ag C ?_ Aj;exact Aa 2 [] (λq=>λ_=>Au [2,3,4,5,6,7] C<|Fk hS1267 (F,G,q,O,(L,rc),(J,K)) lE (λw f D=>D.perm (List.perm_middle (l₁:=[_]))))
 refine LU Nf (LS b1 b2 b3 b4 b5 b6 [1,6,7]) (DR b1 b2 b3 b4 b5 b6 [1,6,7]) (λ_=>[]) (f16 [1,6,7]) ?_ (λhS167=>?_)
 ·
  rintro⟨F,G,b7,O,⟨L,rc⟩,⟨J,K⟩⟩;refine Ag C ?_ ?_;refine Dc 2 C C<|D5 (λw f=>Ak w f (T1.var 1).one (some ⟨F,0,none⟩) 1) (λw f D=>Dg (l:=[(.var 1,none,0)]) ⟨Ak.nil _ _ _ _,tQ⟩ D.b0) Ak.mono<|Bt C C (eC Bu C C) (λw f D=>CN w f D.vl Ig (T1.var 1).one (some ⟨F,0,none⟩) 1 dC D.f0) (λ_=>⟨Ak.mono,tQ⟩) ?_;rintro⟨qa,qc⟩ -;exact Aa 1 [] (λ_=>AY [2,3,4,5,6,7] Fl C (λ_ h=>.tail _ h)<|Fk hS1267 (F,G,b7,O,(qa,qc),(J,K)) lE (λw f D=>D.less sR sR nE (mR [0,2])));refine Ag C ?_ Aj;exact Aa 2 [] (λq=>λ_=>Au [4,5,6,7,8,9] C<|Fk Z (F,q,b7,O,(L,rc),(J,K)) lE (λw f D=>D.perm (List.perm_middle (l₁:=[_,_]))))
 refine LU QM (LS b1 b2 b3 b4 b5 b6 [1,2,6]) (DR b1 b2 b3 b4 b5 b6 [1,2,6]) (λ_=>[]) (f16 [1,2,6]) ?_ (λhS126=>?_)
 ·
  rintro⟨F,G,b7,O,⟨L,rc⟩,⟨J,K⟩⟩;refine Ag C ?_ ?_;exact Aa 2 [] (λq=>λ_=>Au [2,3,4,5,6,7] C<|Fk hS1246 (F,q,b7,O,(L,rc),(J,K)) lE (λw f D=>D.perm (List.perm_middle (l₁:=[_]))));refine Ag C ?_ Aj;exact Aa 2 [] (λq=>λ_=>Au [2,3,4,5,6,7] C<|Fk hS1267 (F,G,b7,q,(L,rc),(J,K)) lE (λw f D=>D))
 refine LU Na (LS b1 b2 b3 b4 b5 b6 [4,6,7]) (DR b1 b2 b3 b4 b5 b6 [4,6,7]) (λ_=>[]) (f16 [4,6,7]) ?_ (λhS467=>?_)
 ·
  rintro⟨F,G,b7,O,⟨L,rc⟩,⟨J,K⟩⟩;refine Ag C ?_ Aj;exact Aa 2 [] (λq=>λ_=>Au [4,5,6,7,8,9] C<|Fk Z (q,G,b7,O,(L,rc),(J,K)) lE (λw f D=>D.perm (List.perm_middle (l₁:=[_,_,_]))))
 refine LU Sb (LS b1 b2 b3 b4 b5 b6 [1,2,4]) (DR b1 b2 b3 b4 b5 b6 [1,2,4]) (λ_=>[]) (f16 [1,2,4]) ?_ (λhS124=>?_)
 ·
  rintro⟨F,G,b7,O,⟨L,rc⟩,⟨J,K⟩⟩;refine Ag C ?_ ?_;refine Dc 0 C C<|D5 (λw f=>Ak w f (T1.var 1).one (some ⟨G,0,none⟩) 1) (λw f D=>Dg (l:=[(.var 1,none,0)]) ⟨Ak.nil _ _ _ _,tQ⟩ D.b0) Ak.mono<|Bt C C (eC Bu C C) (λw f D=>CN w f D.vl BP (T1.var 1).one (some ⟨G,0,none⟩) 1 dC D.f0) (λ_=>⟨Ak.mono,tQ⟩) ?_;rintro⟨qa,qc⟩ -;exact Aa 1 [] (λ_=>AY [0,1,2,3,4,5] Fl C (λ_ h=>.tail _ h)<|Fk hS1245 (F,G,b7,O,(L,rc),(qa,qc)) lE (λw f D=>D.less sR sR nE (mR [0,2,3])));refine Ag C ?_ ?_;exact Aa 2 [] (λq=>λ_=>Au [2,3,4,5,6,7] C<|Fk hS1246 (F,G,q,O,(L,rc),(J,K)) lE (λw f D=>D));refine Ag C ?_ Aj;exact Aa 2 [] (λq=>λ_=>Au [2,3,4,5,6,7] C<|Fk hS1247 (F,G,b7,q,(L,rc),(J,K)) lE (λw f D=>D))
 refine LU VX (LS b1 b2 b3 b4 b5 b6 [1,4]) (DR b1 b2 b3 b4 b5 b6 [1,4]) (λ_=>[]) (f16 [1,4]) ?_ (λhS14=>?_)
 ·
  rintro⟨F,G,b7,O,⟨L,rc⟩,⟨J,K⟩⟩;refine Ag C ?_ ?_;refine Dc 1 C C<|D5 (λw f=>Ak w f (T1.var 1).one (some ⟨F,0,none⟩) 1) (λw f D=>Dg (l:=[(.var 1,none,0)]) ⟨Ak.nil _ _ _ _,tQ⟩ D.b0) Ak.mono<|Bt C C (eC Bu C C) (λw f D=>CN w f D.vl Ig (T1.var 1).one (some ⟨F,0,none⟩) 1 dC D.f0) (λ_=>⟨Ak.mono,tQ⟩) ?_;rintro⟨qa,qc⟩ -;exact Aa 1 [] (λ_=>AY [1,2,3,4,5,6] Fl C (λ_ h=>.tail _ h)<|Fk hS124 (F,G,b7,O,(qa,qc),(J,K)) lE (λw f D=>D.less sR sR nE (mR [0,2])));refine Ag C ?_ ?_;exact Aa 2 [] (λq=>λ_=>Au [3,4,5,6,7,8] C<|Fk hS146 (F,G,q,O,(L,rc),(J,K)) lE (λw f D=>D));refine Ag C ?_ Aj;exact Aa 2 [] (λq=>λ_=>Au [3,4,5,6,7,8] C<|Fk hS147 (F,G,b7,q,(L,rc),(J,K)) lE (λw f D=>D))
 refine LU UU (LS b1 b2 b3 b4 b5 b6 [4,6]) (DR b1 b2 b3 b4 b5 b6 [4,6]) (λ_=>[]) (f16 [4,6]) ?_ (λhS46=>?_)
 ·
  rintro⟨F,G,b7,O,⟨L,rc⟩,⟨J,K⟩⟩;refine Ag C ?_ ?_;exact Aa 2 [] (λq=>λ_=>Au [3,4,5,6,7,8] C<|Fk hS146 (q,G,b7,O,(L,rc),(J,K)) lE (λw f D=>D.perm (List.perm_middle (l₁:=[_,_]))));refine Ag C ?_ Aj;exact Aa 2 [] (λq=>λ_=>Au [3,4,5,6,7,8] C<|Fk hS467 (F,G,b7,q,(L,rc),(J,K)) lE (λw f D=>D))
 refine LU U7 (LS b1 b2 b3 b4 b5 b6 [1,7]) (DR b1 b2 b3 b4 b5 b6 [1,7]) (λ_=>[]) (f16 [1,7]) ?_ (λhS17=>?_)
 ·
  rintro⟨F,G,b7,O,⟨L,rc⟩,⟨J,K⟩⟩;refine Ag C ?_ ?_;refine Dc 1 C C<|D5 (λw f=>Ak w f (T1.var 1).one (some ⟨F,0,none⟩) 1) (λw f D=>Dg (l:=[(.var 1,none,0)]) ⟨Ak.nil _ _ _ _,tQ⟩ D.b0) Ak.mono<|Bt C C (eC Bu C C) (λw f D=>CN w f D.vl Ig (T1.var 1).one (some ⟨F,0,none⟩) 1 dC D.f0) (λ_=>⟨Ak.mono,tQ⟩) ?_;rintro⟨qa,qc⟩ -;exact Aa 1 [] (λ_=>AY [1,2,3,4,5,6] Fl C (λ_ h=>.tail _ h)<|Fk hS127 (F,G,b7,O,(qa,qc),(J,K)) lE (λw f D=>D.less sR sR nE (mR [0,2])));refine Ag C ?_ ?_;exact Aa 2 [] (λq=>λ_=>Au [3,4,5,6,7,8] C<|Fk hS147 (F,q,b7,O,(L,rc),(J,K)) lE (λw f D=>D.perm (List.perm_middle (l₁:=[_]))));refine Ag C ?_ Aj;exact Aa 2 [] (λq=>λ_=>Au [3,4,5,6,7,8] C<|Fk hS167 (F,G,q,O,(L,rc),(J,K)) lE (λw f D=>D.perm (List.perm_middle (l₁:=[_]))))
 refine LU Vy (LS b1 b2 b3 b4 b5 b6 [1,6]) (DR b1 b2 b3 b4 b5 b6 [1,6]) (λ_=>[]) (f16 [1,6]) ?_ (λhS16=>?_)
 ·
  rintro⟨F,G,b7,O,⟨L,rc⟩,⟨J,K⟩⟩;refine Ag C ?_ ?_;refine Dc 1 C C<|D5 (λw f=>Ak w f (T1.var 1).one (some ⟨F,0,none⟩) 1) (λw f D=>Dg (l:=[(.var 1,none,0)]) ⟨Ak.nil _ _ _ _,tQ⟩ D.b0) Ak.mono<|Bt C C (eC Bu C C) (λw f D=>CN w f D.vl Ig (T1.var 1).one (some ⟨F,0,none⟩) 1 dC D.f0) (λ_=>⟨Ak.mono,tQ⟩) ?_;rintro⟨qa,qc⟩ -;exact Aa 1 [] (λ_=>AY [1,2,3,4,5,6] Fl C (λ_ h=>.tail _ h)<|Fk hS126 (F,G,b7,O,(qa,qc),(J,K)) lE (λw f D=>D.less sR sR nE (mR [0,2])));refine Ag C ?_ ?_;exact Aa 2 [] (λq=>λ_=>Au [3,4,5,6,7,8] C<|Fk hS146 (F,q,b7,O,(L,rc),(J,K)) lE (λw f D=>D.perm (List.perm_middle (l₁:=[_]))));refine Ag C ?_ Aj;exact Aa 2 [] (λq=>λ_=>Au [3,4,5,6,7,8] C<|Fk hS167 (F,G,b7,q,(L,rc),(J,K)) lE (λw f D=>D))
 refine LU UB (LS b1 b2 b3 b4 b5 b6 [4,7]) (DR b1 b2 b3 b4 b5 b6 [4,7]) (λ_=>[]) (f16 [4,7]) ?_ (λhS47=>?_)
 ·
  rintro⟨F,G,b7,O,⟨L,rc⟩,⟨J,K⟩⟩;refine Ag C ?_ ?_;exact Aa 2 [] (λq=>λ_=>Au [3,4,5,6,7,8] C<|Fk hS147 (q,G,b7,O,(L,rc),(J,K)) lE (λw f D=>D.perm (List.perm_middle (l₁:=[_,_]))));refine Ag C ?_ Aj;exact Aa 2 [] (λq=>λ_=>Au [3,4,5,6,7,8] C<|Fk hS467 (F,G,q,O,(L,rc),(J,K)) lE (λw f D=>D.perm (List.perm_middle (l₁:=[_]))))
 refine LU UA (LS b1 b2 b3 b4 b5 b6 [6,7]) (DR b1 b2 b3 b4 b5 b6 [6,7]) (λ_=>[]) (f16 [6,7]) ?_ (λhS67=>?_)
 ·
  rintro⟨F,G,b7,O,⟨L,rc⟩,⟨J,K⟩⟩;refine Ag C ?_ ?_;exact Aa 2 [] (λq=>λ_=>Au [3,4,5,6,7,8] C<|Fk hS167 (q,G,b7,O,(L,rc),(J,K)) lE (λw f D=>D.perm (List.perm_middle (l₁:=[_,_]))));refine Ag C ?_ Aj;exact Aa 2 [] (λq=>λ_=>Au [3,4,5,6,7,8] C<|Fk hS467 (F,q,b7,O,(L,rc),(J,K)) lE (λw f D=>D.perm (List.perm_middle (l₁:=[_,_]))))
 refine LU aA (LS b1 b2 b3 b4 b5 b6 [1,2]) (DR b1 b2 b3 b4 b5 b6 [1,2]) (λ_=>[]) (f16 [1,2]) ?_ (λhS12=>?_)
 ·
  rintro⟨F,G,b7,O,⟨L,rc⟩,⟨J,K⟩⟩;refine Ag C ?_ ?_;exact Aa 2 [] (λq=>λ_=>Au [1,2,3,4,5,6] C<|Fk hS124 (F,q,b7,O,(L,rc),(J,K)) lE (λw f D=>D));refine Ag C ?_ ?_;exact Aa 2 [] (λq=>λ_=>Au [1,2,3,4,5,6] C<|Fk hS126 (F,G,q,O,(L,rc),(J,K)) lE (λw f D=>D));refine Ag C ?_ Aj;exact Aa 2 [] (λq=>λ_=>Au [1,2,3,4,5,6] C<|Fk hS127 (F,G,b7,q,(L,rc),(J,K)) lE (λw f D=>D))
 refine LU oW (LS b1 b2 b3 b4 b5 b6 [1]) (DR b1 b2 b3 b4 b5 b6 [1]) (λ_=>[]) (f16 [1]) ?_ (λhS1=>?_)
 ·
  rintro⟨F,G,b7,O,⟨L,rc⟩,⟨J,K⟩⟩;refine Ag C ?_ ?_;refine Dc 0 C C<|D5 (λw f=>Ak w f (T1.var 1).one (some ⟨F,0,none⟩) 1) (λw f D=>Dg (l:=[(.var 1,none,0)]) ⟨Ak.nil _ _ _ _,tQ⟩ D.b0) Ak.mono<|Bt C C (eC Bu C C) (λw f D=>CN w f D.vl Ig (T1.var 1).one (some ⟨F,0,none⟩) 1 dC D.f0) (λ_=>⟨Ak.mono,tQ⟩) ?_;rintro⟨qa,qc⟩ -;exact Aa 1 [] (λ_=>AY [0,1,2,3,4,5] Fl C (λ_ h=>.tail _ h)<|Fk hS12 (F,G,b7,O,(qa,qc),(J,K)) lE (λw f D=>D.less sR sR nE (mR [0,2])));refine Ag C ?_ ?_;exact Aa 2 [] (λq=>λ_=>Au [2,3,4,5,6,7] C<|Fk hS14 (F,q,b7,O,(L,rc),(J,K)) lE (λw f D=>D));refine Ag C ?_ ?_;exact Aa 2 [] (λq=>λ_=>Au [2,3,4,5,6,7] C<|Fk hS16 (F,G,q,O,(L,rc),(J,K)) lE (λw f D=>D));refine Ag C ?_ Aj;exact Aa 2 [] (λq=>λ_=>Au [2,3,4,5,6,7] C<|Fk hS17 (F,G,b7,q,(L,rc),(J,K)) lE (λw f D=>D))
 refine LU qX (LS b1 b2 b3 b4 b5 b6 [4]) (DR b1 b2 b3 b4 b5 b6 [4]) (λ_=>[]) (f16 [4]) ?_ (λhS4=>?_)
 ·
  rintro⟨F,G,b7,O,⟨L,rc⟩,⟨J,K⟩⟩;refine Ag C ?_ ?_;exact Aa 2 [] (λq=>λ_=>Au [2,3,4,5,6,7] C<|Fk hS14 (q,G,b7,O,(L,rc),(J,K)) lE (λw f D=>D.perm (List.perm_middle (l₁:=[_]))));refine Ag C ?_ ?_;exact Aa 2 [] (λq=>λ_=>Au [2,3,4,5,6,7] C<|Fk hS46 (F,G,q,O,(L,rc),(J,K)) lE (λw f D=>D));refine Ag C ?_ Aj;exact Aa 2 [] (λq=>λ_=>Au [2,3,4,5,6,7] C<|Fk hS47 (F,G,b7,q,(L,rc),(J,K)) lE (λw f D=>D))
 refine LU pS (LS b1 b2 b3 b4 b5 b6 [7]) (DR b1 b2 b3 b4 b5 b6 [7]) (λ_=>[]) (f16 [7]) ?_ (λhS7=>?_)
 ·
  rintro⟨F,G,b7,O,⟨L,rc⟩,⟨J,K⟩⟩;refine Ag C ?_ ?_;exact Aa 2 [] (λq=>λ_=>Au [2,3,4,5,6,7] C<|Fk hS17 (q,G,b7,O,(L,rc),(J,K)) lE (λw f D=>D.perm (List.perm_middle (l₁:=[_]))));refine Ag C ?_ ?_;exact Aa 2 [] (λq=>λ_=>Au [2,3,4,5,6,7] C<|Fk hS47 (F,q,b7,O,(L,rc),(J,K)) lE (λw f D=>D.perm (List.perm_middle (l₁:=[_]))));refine Ag C ?_ Aj;exact Aa 2 [] (λq=>λ_=>Au [2,3,4,5,6,7] C<|Fk hS67 (F,G,q,O,(L,rc),(J,K)) lE (λw f D=>D.perm (List.perm_middle (l₁:=[_]))))
 refine LU pH (LS b1 b2 b3 b4 b5 b6 [6]) (DR b1 b2 b3 b4 b5 b6 [6]) (λ_=>[]) (f16 [6]) ?_ (λhS6=>?_)
 ·
  rintro⟨F,G,b7,O,⟨L,rc⟩,⟨J,K⟩⟩;refine Ag C ?_ ?_;exact Aa 2 [] (λq=>λ_=>Au [2,3,4,5,6,7] C<|Fk hS16 (q,G,b7,O,(L,rc),(J,K)) lE (λw f D=>D.perm (List.perm_middle (l₁:=[_]))));refine Ag C ?_ ?_;exact Aa 2 [] (λq=>λ_=>Au [2,3,4,5,6,7] C<|Fk hS46 (F,q,b7,O,(L,rc),(J,K)) lE (λw f D=>D.perm (List.perm_middle (l₁:=[_]))));refine Ag C ?_ Aj;exact Aa 2 [] (λq=>λ_=>Au [2,3,4,5,6,7] C<|Fk hS67 (F,G,b7,q,(L,rc),(J,K)) lE (λw f D=>D))
 refine LU zM (LS b1 b2 b3 b4 b5 b6 []) (DR b1 b2 b3 b4 b5 b6 []) (λ_=>[]) (f16 []) ?_ (λhS=>?_)
 ·
  rintro⟨F,G,b7,O,⟨L,rc⟩,⟨J,K⟩⟩;refine Ag C ?_ ?_;exact Aa 2 [] (λq=>λ_=>Au [1,2,3,4,5,6] C<|Fk hS1 (q,G,b7,O,(L,rc),(J,K)) lE (λw f D=>D));refine Ag C ?_ ?_;exact Aa 2 [] (λq=>λ_=>Au [1,2,3,4,5,6] C<|Fk hS4 (F,q,b7,O,(L,rc),(J,K)) lE (λw f D=>D));refine Ag C ?_ ?_;exact Aa 2 [] (λq=>λ_=>Au [1,2,3,4,5,6] C<|Fk hS6 (F,G,q,O,(L,rc),(J,K)) lE (λw f D=>D));refine Ag C ?_ Aj;exact Aa 2 [] (λq=>λ_=>Au [1,2,3,4,5,6] C<|Fk hS7 (F,G,b7,q,(L,rc),(J,K)) lE (λw f D=>D))
 exact Fk hS (0,0,0,0,(none,0),(none,0)) lE (λw f D=>D);rintro⟨b7,O,⟨L,rc⟩,⟨J,K⟩⟩ -;dsimp only;refine Aa 8 [] (λb31=>λ_=>Dn C C (λw f D=>RJ C)<|Aa 4 [] (λ_=>yE 0 C C<|mmi (Pw b31 none) (DW 121 124 b31 (.slice none 0 0) none 0 0 []) (λb h=>h.elim .inr λh=>by cases h) (λw f h=>⟨h.2,⟨C,.inl ⟨C,C,C⟩⟩,λh=>by cases h⟩) DW.stab<|D5 (λw f=>Db w f [] []) (λw f D=>C) Db.mono<|Aa 6 [7,7,7] (y<|y<|y<|λb32=>λ_=>Hm 0 5 [qI,qI,qI] C C C C C C (λw f _ _ D=>⟨D.f3,⟨qN,⟨qN,⟨qN,tQ⟩⟩⟩⟩) ⟨kI,⟨kI,⟨kI,tQ⟩⟩⟩ λa1 c1 xs1=>Aa 8 [7,7] (y<|y<|λb33=>λ_=>Hm 0 6 [qI,qI] C C C C C C (λw f _ _ D=>⟨D.f3,⟨qN,⟨qN,tQ⟩⟩⟩) ⟨kI,⟨kI,tQ⟩⟩ λa2 c2 xs2=>?_))));refine Aa 9 [7,7,4] (y<|y<|y<|λb34=>λ_=>Hm 0 9 [qI,qI,qB] C C C C C C (λw f _ _ D=>⟨D.f3,⟨qN,⟨qN,⟨qN,tQ⟩⟩⟩⟩) ⟨kI,⟨kI,⟨kB,tQ⟩⟩⟩ λa3 c3 xs3=>Aa 9 [6,6,6] (y<|y<|y<|λb35=>λ_=>Hm 0 13 [qF,qF,qF] C C C C C C (λw f _ _ D=>⟨D.f3,⟨qN,⟨qN,⟨qN,tQ⟩⟩⟩⟩) ⟨kF,⟨kF,⟨kF,tQ⟩⟩⟩ λa4 c4 xs4=>Aa 8 [6,6] (y<|y<|λb36=>λ_=>Hm 0 15 [qF,qF] C C C C C C (λw f _ _ D=>⟨D.f3,⟨qN,⟨qN,tQ⟩⟩⟩) ⟨kF,⟨kF,tQ⟩⟩ λa5 c5 xs5=>Aa 9 [6,6,4] (y<|y<|y<|λb37=>λ_=>Hm 0 18 [qF,qF,qB] C C C C C C (λw f _ _ D=>⟨D.f3,⟨qN,⟨qN,⟨qN,tQ⟩⟩⟩⟩) ⟨kF,⟨kF,⟨kB,tQ⟩⟩⟩ λa6 c6 xs6=>Aa 8 [7,6] (y<|y<|λb38=>λ_=>Hm 0 19 [qI,qF] C C C C C C (λw f _ _ D=>⟨D.f3,⟨qN,⟨qN,tQ⟩⟩⟩) ⟨kI,⟨kF,tQ⟩⟩ λa7 c7 xs7=>?_)))));refine Aa 8 [6,7] (y<|y<|λb39=>λ_=>Hm 0 20 [qF,qI] C C C C C C (λw f _ _ D=>⟨D.f3,⟨qN,⟨qN,tQ⟩⟩⟩) ⟨kF,⟨kI,tQ⟩⟩ λa8 c8 xs8=>Aa 8 [6,5] (y<|y<|λb40=>λ_=>Hm 0 21 [qF,qS] C C C C C C (λw f _ _ D=>⟨D.f3,⟨qN,⟨qN,tQ⟩⟩⟩) ⟨kF,⟨kS,tQ⟩⟩ λa9 c9 xs9=>Aa 7 [6] (y<|λb41=>λ_=>Hm 0 23 [qF] C C C C C C (λw f _ _ D=>⟨D.f3,⟨qN,tQ⟩⟩) ⟨kF,tQ⟩ λa10 c10 xs10=>Aa 9 [5,5,5] (y<|y<|y<|λb42=>λ_=>Hm 0 24 [qS,qS,qS] C C C C C C (λw f _ _ D=>⟨D.f3,⟨qN,⟨qN,⟨qN,tQ⟩⟩⟩⟩) ⟨kS,⟨kS,⟨kS,tQ⟩⟩⟩ λa11 c11 xs11=>Aa 8 [5,7] (y<|y<|λb43=>λ_=>Hm 0 27 [qS,qI] C C C C C C (λw f _ _ D=>⟨D.f3,⟨qN,⟨qN,tQ⟩⟩⟩) ⟨kS,⟨kI,tQ⟩⟩ λa12 c12 xs12=>?_)))))
 refine Aa 10 [5,7,7,5] (y<|y<|y<|y<|λb44=>λ_=>Hm 0 28 [qS,qI,qI,qS] C C C C C C (λw f _ _ D=>⟨D.f3,⟨qN,⟨qN,⟨qN,⟨qN,tQ⟩⟩⟩⟩⟩) ⟨kS,⟨kI,⟨kI,⟨kS,tQ⟩⟩⟩⟩ λa13 c13 xs13=>Aa 9 [5,5,4] (y<|y<|y<|λb45=>λ_=>Hm 0 30 [qS,qS,qB] C C C C C C (λw f _ _ D=>⟨D.f3,⟨qN,⟨qN,⟨qN,tQ⟩⟩⟩⟩) ⟨kS,⟨kS,⟨kB,tQ⟩⟩⟩ λa14 c14 xs14=>Aa 8 [7,5] (y<|y<|λb46=>λ_=>Hm 0 32 [qI,qS] C C C C C C (λw f _ _ D=>⟨D.f3,⟨qN,⟨qN,tQ⟩⟩⟩) ⟨kI,⟨kS,tQ⟩⟩ λa15 c15 xs15=>Aa 8 [5,3] (y<|y<|λb47=>λ_=>Hm 0 33 [qS,qU] C C C C C C (λw f _ _ D=>⟨D.f3,⟨qN,⟨qN,tQ⟩⟩⟩) ⟨kS,⟨kU,tQ⟩⟩ λa16 c16 xs16=>Aa 8 [3,5] (y<|y<|λb48=>λ_=>Hm 0 34 [qU,qS] C C C C C C (λw f _ _ D=>⟨D.f3,⟨qN,⟨qN,tQ⟩⟩⟩) ⟨kU,⟨kS,tQ⟩⟩ λa17 c17 xs17=>?_)))));refine Aa 8 [2,1] (y<|y<|λb49=>λ_=>Hm 0 35 [qV,(qR L rc)] C C C C C C (λw f _ _ D=>⟨D.f3,⟨qN,⟨D.f2,tQ⟩⟩⟩) ⟨kV,⟨(Dt dC dC tQ),tQ⟩⟩ λa18 c18 xs18=>Aa 8 [1,2] (y<|y<|λb50=>λ_=>Hm 0 36 [(qR L rc),qV] C C C C C C (λw f _ _ D=>⟨D.f3,⟨D.f2,⟨qN,tQ⟩⟩⟩) ⟨(Dt dC dC tQ),⟨kV,tQ⟩⟩ λa19 c19 xs19=>Aa 9 [1,2,3] (y<|y<|y<|λb51=>λ_=>Hm 0 37 [(qR L rc),qV,qU] C C C C C C (λw f _ _ D=>⟨D.f3,⟨D.f2,⟨qN,⟨qN,tQ⟩⟩⟩⟩) ⟨(Dt dC dC tQ),⟨kV,⟨kU,tQ⟩⟩⟩ λa20 c20 xs20=>Aa 8 [2,0] (y<|y<|λb52=>λ_=>Hm 0 38 [qV,(qP J K)] C C C C C C (λw f _ _ D=>⟨D.f3,⟨qN,⟨D.f1,tQ⟩⟩⟩) ⟨kV,⟨(Dt dC dC tQ),tQ⟩⟩ λa21 c21 xs21=>Aa 8 [0,2] (y<|y<|λb53=>λ_=>Hm 0 39 [(qP J K),qV] C C C C C C (λw f _ _ D=>⟨D.f3,⟨D.f1,⟨qN,tQ⟩⟩⟩) ⟨(Dt dC dC tQ),⟨kV,tQ⟩⟩ λa22 c22 xs22=>?_)))));exact Aa 9 [0,2,3] (y<|y<|y<|λb54=>λ_=>Hm 0 40 [(qP J K),qV,qU] C C C C C C (λw f _ _ D=>⟨D.f3,⟨D.f1,⟨qN,⟨qN,tQ⟩⟩⟩⟩) ⟨(Dt dC dC tQ),⟨kV,⟨kU,tQ⟩⟩⟩ λa23 c23 xs23=>Aa 4 [] (λ_=>Dn C C (λw f D=>Ai C KN D.res.blk C)<|Aa 4 [] (λ_=>AR (CY C C) (λw f D=>by obtain⟨f2,h1,h2⟩:=D.res.fin (l:=Ck) D.exm (λb hb=>(D.mi b (.inr hb)).2.2.elim id λh=>h.elim) D.f0 C dC;exact⟨(a23,c23),f2,C,tQ,h1,⟨h2,tQ⟩⟩))))
def QS(p:TJ):Bd:=⟨p.1,Cu p.2.2 [1] (T1.var (0-1)).one,[0-1]⟩
def Hi(i:Nat):Ba:=((Ck.take i).map QS).reverse
variable {nu:Int}{i:Nat}{dt:lU}
theorem Y5{p:TJ}(h:Ck[i]?=some p):Hi (i+1)=QS p::Hi i:=by
 unfold Hi;rw[CC h,List.map_append,List.reverse_append];rfl
theorem Ss:Hi Ck.length=H0:=kR
theorem Ow:∀p,p∈Ck→p.2.2.bnd:=by
 intro p D;simp only[Ck,List.mem_cons,List.not_mem_nil,or_false] at D;have F:∀{l:List (T1×oA×Nat)},dN l→(Ih (Uy l)).bnd:=λh=>Xy (QQ h);have J:=Bw 1;have d:∀{t:lU},t.length≤1000000→(c0 t).bnd:=λh=>Da h;have K:(T1.con Ig (T1.var 1).one).bnd:=Dt dC dC tQ;have G:(T1.con BP (T1.var 1).one).bnd:=Dt dC dC tQ;have bi:=d (t:=bI) dC;have L:=d (t:=bF) dC;have O:=d (t:=bS) dC;have Q:=d (t:=bB) dC;have U:=d (t:=bU) dC
 repeat' (rcases D with rfl|D)
 all_goals first|(subst D)|skip
 all_goals (refine F ?_;simp only[dN,and_true];simp[*])
theorem SE{nm:lU}{d:Nat}(h:Io[i]?=some (nm,dt,nu,d)):d≤1:=by
 have:∀p∈Io,p.2.2.2≤1:=dC;exact this _ (List.mem_of_getElem? h)
theorem TA{nm:lU}{d:Nat}(h:Io[i]?=some (nm,dt,nu,d)):dt.length≤1000000:=by
 have:∀p∈Io,p.2.1.length≤1000000:=dC;exact this _ (List.mem_of_getElem? h)
theorem WFc0:DI (⟨[],0,ZC 0,[],[],0⟩:CS):=⟨tQ,λ_ _ h=>(by cases h),tQ,tQ,tQ,Int.le_refl _⟩
set_option maxHeartbeats 2000000 in
theorem Wy(w:wO)(f:Fq)(hv:Vl w f)(hG:FI w f) :
  Bq prog 22 #[] w (KB (α:=Ad×oA) (λx=>.tuple #[pB x.1.cb,.pointer x.2]) (λx=>x.1.ok) (λ_=>False) (λx=>Bz x.1) (λx=>As 84 163 x.1 Wx) (λx=>[λw f=>AJ w f H0 x.2]) w f):=by
 refine Cw (X:=X0 w f) (H:=[]) (R:=[]) (B:=[]) (Fs:=[λw f=>FI w f]) (f:=f) func22 C C C (Ci hv ⟨hG,tQ⟩ ⟨FI.mono,tQ⟩)<|Aa 8 [] (λ_=>Wf (XX:=λ_ _=>False) C C (eC uG C C) (λw f d=>(iM w f d.vl).retP) (λ_=>BC.stab (.inl C) (.inr C)) (λ_=>trivial) (λ_ _ _ _ _ h=>h.elim) ?_);rintro⟨sb,mb⟩ hsm;dsimp only at hsm ⊢;refine fN (K:=BQ) C C λkm hkm=>fN (K:=BQ) C C λdm hdm=>fN (K:=BQ) C C λrm hrm=>Aa 7 [] (λb1=>λ_=>Jf (λw f d=>(d.own b1 (.head _)).2.2) λZ=>yE 0 C C ?_);obtain⟨A,rfl,rfl,rfl,rfl,rfl,rfl⟩:∃A:Ad,A.cb=b1∧A.sb=sb∧A.mb=mb∧A.km=km∧A.dm=dm∧A.rm=rm:=⟨⟨b1,sb,mb,km,dm,rm⟩,C,C,C,C,C,C⟩;have hA:A.ok:=⟨λe=>Z (.inl (.inl (.inl (.inl e)))),⟨λe=>Z (.inl (.inl (.inl (.inr e)))),λe=>Z (.inl (.inl (.inr e))),λe=>Z (.inl (.inr e)),λe=>Z (.inr e)⟩,⟨hsm,λe=>hkm (.inl e.symm),λe=>hdm (.inl (.inl e.symm)),λe=>hrm (.inl (.inl (.inl e.symm)))⟩,⟨λe=>hkm (.inr e.symm),λe=>hdm (.inl (.inr e.symm)),λe=>hrm (.inl (.inl (.inr e.symm))),λe=>hdm (.inr e.symm),λe=>hrm (.inl (.inr e.symm)),λe=>hrm (.inr e.symm)⟩⟩;refine mmi (Bz A) (As 84 163 A (⟨[],0,ZC 0,[],[],0⟩:CS)) (λb h=>by rcases h with h|h|h|h|h|h;exact .inr h;exact .inl (.inl (.inl (.inl (.inl h))));exact .inl (.inl (.inl (.inl (.inr h))));exact .inl (.inl (.inl (.inr h)));exact .inl (.inl (.inr h));exact .inl (.inr h)) (λw f h=>⟨h.2,⟨0,h.1.1.1.1⟩,⟨[],h.1.1.1.2,C⟩,h.1.1.2,h.1.2⟩) As.stab<|Aa 1 [] (λ_=>Bt C C (eC uN C C) (λw f d=>W1 w f d.vl) (λx=>⟨λ_ _ _ _ h hF=>Cs.mono h hF,tQ⟩) ?_);rintro kb -;refine Aa 5 [] (λ_=>?_);refine FG (α:=Nat) (λi=>8-i) (λi=>i≤8∧DI (⟨[],0,ZC i,[],[],0⟩:CS)) (λi=>(E4 2 (pB A.cb) 15 (.slice (some ⟨kb,0,none⟩) 8 8) 16 (iV ((8:Nat):Int)) 17 (iV (i:Int)))) (λi=>⟨λ_=>False,Bz A,As 84 163 A (⟨[],0,ZC i,[],[],0⟩:CS),w,f⟩) (λi=>[]) (λi=>[]) (λi=>[]) (λi=>[λw f=>Cs w f kb 0 RF,λw f=>FI w f]) (0) ⟨Nat.zero_le _,WFc0⟩ lE (λw f d=>d.less sR sR nE (mR [0,1])) ?_;rintro i ⟨hi,hwi⟩;refine Aa 6 [] (λ_=>AN 18 C C (λh1=>?_) (λh1=>?_));refine Aa 6 [] (λ_=>?_);have hil:i<8:=by have:=dT h1;omega
 obtain⟨⟨nm,dt,nu,J⟩,hx⟩:∃v,Io[i]?=some v:=⟨_,List.getElem?_eq_getElem (l:=Io) hil⟩;have har:J≤1:=SE hx;refine KU (α:=Unit) (λx=>True) (λx=>[⟨kb,0+i*4,cC (nm,dt,nu,J)⟩]) (λx=>[]) (λw f d=>⟨(),tQ,(λe he=>by cases he with|head=>exact Cs.flat cC 4 (λ_=>C) Io 0 i _ d.f0 hx|tail _ h=>cases h),λ_ h=>by cases h⟩) (λx=>Aw.mem tQ) ?_;rintro⟨⟩ -;refine Aa 11 [100,0,0,0] (aI oM<|y2<|λb2=>y<|y<|λ_=>Bt C C (eC Bu C C) (λw f d=>Bo w f d.vl dt) (λx=>trivial) ?_);rintro⟨⟩ -;refine Aa 14 [0,1] (λb3=>y<|y<|λ_=>PA 76 4 ?_);refine FG (α:=Nat×lV×oA×Nat) (λx=>J-x.1) (λx=>x.1≤J) (λx=>(E8 2 (pB A.cb) 4 (pB b2) 5 (pB b3) 15 (.slice (some ⟨kb,0,none⟩) 8 8) 16 (iV ((8:Nat):Int)) 17 (iV (i:Int)) 26 (iV (J:Int)) 27 (iV (x.1:Int)))) (λx=>⟨λ_=>False,Bz A,As 84 163 A (⟨[],0,ZC i,[],[],0⟩:CS),w,f⟩) (λx=>[⟨b3,[.slice x.2.2.1 x.1 x.2.2.2,iV 1,iV 0,S dt,.slice none 0 0,.slice none 0 0],120,true⟩,⟨b2,cC (nm,dt,nu,J),118,true⟩]) (λx=>[⟨76,4,x.2.2.1,x.2.2.2,x.1,x.2.1⟩]) (λx=>[]) (λx=>[λw f=>Bi w f (NK x.1) x.2.1,λw f=>Cs w f kb 0 RF,λw f=>FI w f]) (0,[],none,0) (Nat.zero_le _) lE (λw f d=>d.more (B':=[]) (F':=[λw f=>Bi w f .nil []]) nE (AI.mem ⟨C,tQ⟩) (Aw.mem ⟨Bi.mono,tQ⟩) |>.less (sK (sK sZ)) sR nE (mR [0,1,2])) ?_;rintro⟨j,xs,ra,rc⟩ hj;dsimp only at hj ⊢;have hj0:=hj;refine Aa 6 [] (λ_=>AN 28 C C (λh2=>?_) (λh2=>?_));refine Aa 5 [] (λ_=>?_);have hjl:j<J:=by have:=dT h2;omega
 refine CF [1] Al (.rd 0 (.br 1 (.br 2 (.br 3 (.br 4 (.rd 5 (.br 6 .fin .fin)) .fin) .fin) .fin) (.br 2 (.br 1 (.br 3 (.br 4 (.rd 5 (.br 6 .fin .fin)) .fin) .fin) (.br 3 (.br 1 (.br 4 (.rd 5 (.br 6 .fin .fin)) .fin) .fin) .fin)) .fin))) C kR<|A2 1 [] (λ_=>Ag C ?_ ?_);refine Aa 2 [0] (y<|λ_=>Au [1] C<|Ag C ?_ Aj);refine Bt C C (eC Bu C C) (λw f d=>Bo w f d.vl [115,116,114,105,110,103]) (λx=>trivial) ?_;rintro⟨⟩ -;refine Aa 1 [] (λ_=>Au [1] C<|Ag C ?_ Aj);refine Aa 2 [] (λb4=>λ_=>Au [2] C<|Ag C ?_ Aj);refine Dq 0 0 C C Dl C C C C C C C C (λ_ _=>C) oM oM λra2 rc2=>Aa 1 [] (λ_=>Au [2] C<|A2 1 [] (λ_=>Ag C ?_ Aj));exact Aa 2 [1] (y<|λ_=>Au [2] C<|Bm<|Aa 6 [] (aI ⟨oM,oM⟩<|λ_=>Df ((j+1,xs++tC (c0 bS) none 0,ra2,rc2)) (show J-(j+1)<J-j by omega) (show j+1≤J by omega) lE (λw f d=>⟨_,(d.more (B':=[]) (F':=[λw f=>Bi w f (NK (j+1)) (xs++tC (c0 bS) none 0)]) nE (AI.mem ⟨Bi.snoc (Ak.nil _ _ _ _) d.f0,tQ⟩) (Aw.mem ⟨Bi.mono,tQ⟩)).less (sD (sK (sK sZ))) sR nE (mR [0,2,3])⟩)));refine Ag C ?_ Aj;refine Bt C C (eC Bu C C) (λw f d=>Bo w f d.vl [115,116,114,105,110,103]) (λx=>trivial) ?_;rintro⟨⟩ -;refine Aa 1 [] (λ_=>Au [1] C<|Ag C ?_ ?_);refine Aa 2 [0] (y<|λ_=>Au [1] C<|Ag C ?_ Aj);refine Aa 2 [] (λb5=>λ_=>Au [2] C<|Ag C ?_ Aj);refine Dq 0 0 C C Dl C C C C C C C C (λ_ _=>C) oM oM λra2 rc2=>Aa 1 [] (λ_=>Au [2] C<|A2 1 [] (λ_=>Ag C ?_ Aj));exact Aa 2 [1] (y<|λ_=>Au [2] C<|Bm<|Aa 6 [] (aI ⟨oM,oM⟩<|λ_=>Df ((j+1,xs++tC (c0 bS) none 0,ra2,rc2)) (show J-(j+1)<J-j by omega) (show j+1≤J by omega) lE (λw f d=>⟨_,(d.more (B':=[]) (F':=[λw f=>Bi w f (NK (j+1)) (xs++tC (c0 bS) none 0)]) nE (AI.mem ⟨Bi.snoc (Ak.nil _ _ _ _) d.f0,tQ⟩) (Aw.mem ⟨Bi.mono,tQ⟩)).less (sD (sK (sK sZ))) sR nE (mR [0,2,3])⟩)));refine Ag C ?_ Aj;refine Aa 2 [] (λb6=>λ_=>Au [2] C<|Ag C ?_ Aj);refine Aa 2 [1] (y<|λ_=>Au [2] C<|Ag C ?_ Aj);refine Dq 0 0 C C Dl C C C C C C C C (λ_ _=>C) oM oM λra2 rc2=>Aa 1 [] (λ_=>Au [2] C<|A2 1 [] (λ_=>Ag C ?_ Aj));exact Aa 2 [1] (y<|λ_=>Au [2] C<|Bm<|Aa 6 [] (aI ⟨oM,oM⟩<|λ_=>Df ((j+1,xs++tC (c0 bS) none 0,ra2,rc2)) (show J-(j+1)<J-j by omega) (show j+1≤J by omega) lE (λw f d=>⟨_,(d.more (B':=[]) (F':=[λw f=>Bi w f (NK (j+1)) (xs++tC (c0 bS) none 0)]) nE (AI.mem ⟨Bi.snoc (Ak.nil _ _ _ _) d.f0,tQ⟩) (Aw.mem ⟨Bi.mono,tQ⟩)).less (sD (sK (sK sZ))) sR nE (mR [0,2,3])⟩)));refine Aa 3 [] (λ_=>Fh<|Aa 2 [] (λ_=>?_));obtain rfl:j=J:=by have:=dF h2;omega
 refine P0 (λw f=>Ak w f (NK j) ra rc) Ak.mono (λw f d=>HT d d.f0)<|LM (λw=>AM w A.cb [pB A.sb,.map (some A.km),.map (some A.dm),.map (some A.rm),iV 0] 84) (λw f h _=>h.blk) [0,1] Al (rd [0,1,2,3,4,5,6] (.br 7 .fin .fin)) C kR kR kR (λ_ _ _ _ _ h=>h)<|A2 3 [] (λ_=>GI C C C (λw hK=>Ai C QG hK.2.2 C)<|A2 3 [1,0] (y<|y<|λ_=>Ag C ?_ Aj));exact zB (m:=⟨NK j,c0 dt,[]⟩) (aa:=ra) (ac:=rc) (oa:=none) (oc:=0) (va:=none) (vc:=0) (i1:=0) hA hwi C C C C (by unfold jE tC;simp only[LF];rfl) PG Gt (OC i hil _ hx) C C C<|Aa 1 [] (λ_=>AY [0,1] (λw f h _=>h.blk) C (λ_ h=>h)<|Bm<|Aa 6 [] (aI ⟨oM,oM⟩<|λ_=>Df (i+1) (show 8-(i+1)<8-i by omega) ⟨show i+1≤8 by omega,(by rw[OI hx];exact hwi.addCons (OC i hil _ hx) ⟨by rw[LF];dsimp only;omega,NH _,Da (TA hx),Nat.zero_le _⟩)⟩ lE (λw f d=>⟨_,by rw[OI hx];exact d.less (sD (sD sZ)) sR nE (mR [2,3])⟩)));refine Aa 3 [] (λ_=>Fh<|Aa 3 [] (λ_=>?_));obtain rfl:i=8:=by have:=dF h1;omega
 refine Aa 4 [] (λ_=>Dn (v:=iV 0) C C (λw f d=>Ai C Iw d.res.blk C)<|Aa 3 [] (aI ⟨oM,oM⟩<|λ_=>cSet (v:=0-1) hA C C C Iw<|Aa 10 [] (λ_=>Bt C C (eC uX C C) (λw f d=>Wb w f d.vl d.f1) (λx=>⟨V9.mono,tQ⟩) ?_)));rintro⟨pa,pc⟩ -;refine Aa 5 [] (λ_=>?_);refine FG (α:=Nat×oA) (λx=>Ck.length-x.1) (λx=>x.1≤Ck.length) (λx=>(E5 2 (pB A.cb) 6 (.pointer x.2) 51 (.slice pa Ck.length pc) 52 (iV (Ck.length:Int)) 53 (iV (x.1:Int)))) (λx=>⟨λ_=>False,Bz A,As 84 163 A (⟨[],0,ZC 8,[],[],0-1⟩:CS),w,f⟩) (λx=>[]) (λx=>[]) (λx=>[]) (λx=>[λw f=>V9 w f Ck pa pc,λw f=>AJ w f (Hi x.1) x.2]) (0,none) (Nat.zero_le _) lE (λw f d=>d.more (B':=[]) (F':=[λw f=>AJ w f (Hi 0) none]) nE (AI.mem ⟨C,tQ⟩) (Aw.mem ⟨AJ.mono,tQ⟩) |>.less sR sR nE (mR [1,0])) ?_;rintro⟨i,L⟩ hi;dsimp only at hi ⊢;refine Aa 6 [] (λ_=>AN 54 C C (λh3=>?_) (λh3=>?_));refine Aa 6 [] (λ_=>?_);have hpl:Ck.length≤1000:=dC;have hil:i<Ck.length:=by have:=dT h3;omega
 obtain⟨p,hx⟩:∃v,Ck[i]?=some v:=⟨_,List.getElem?_eq_getElem hil⟩;have D:p.2.2.bnd:=Ow p (List.mem_of_getElem? hx);refine KU (α:=Nat×oA×Nat) (λx=>pa=some ⟨x.1,0,none⟩) (λx=>[⟨x.1,0+i*6,pC p x.2.1 x.2.2⟩]) (λx=>[λw f=>Ak w f p.2.2.kids x.2.1 x.2.2]) (λw f d=>let ⟨_,b,xs,h1,h2,h3⟩:=d.f0;let ⟨a,c,h4,h5⟩:=Db.get h3 h2 hx;⟨(b,a,c),h1,(λe he=>by cases he with|head=>exact h4|tail _ h=>cases h),AI.mem ⟨h5,tQ⟩⟩) (λx=>Aw.mem ⟨Ak.mono,tQ⟩) ?_;rintro⟨pb,O,Q⟩ rfl;refine Aa 7 [100,0,0] (aI oM<|y2<|λb7=>y<|λ_=>?_);refine Po (α:=oA) (λx=>True) (λx=>(E5 2 (pB A.cb) 6 (.pointer x) 51 (.slice (some (⟨pb,0,none⟩:Addr)) Ck.length pc) 52 (iV (Ck.length:Int)) 53 (iV (i:Int)))) (λx=>⟨λ_=>False,Bz A,As 84 163 A (⟨[],0,ZC 8,[],[],0-1⟩:CS),w,f⟩) (λx=>[]) (λx=>[]) (λx=>[]) (λx=>[λw f=>V9 w f Ck (some (⟨pb,0,none⟩:Addr)) pc,λw f=>AJ w f (QS p::Hi i) x]) ?_ ?_;refine LM (λw=>AM w A.cb [pB A.sb,.map (some A.km),.map (some A.dm),.map (some A.rm),iV (0-1)] 84) (λw f h _=>h.blk) [0] Al (rd [0,1,2,3,5,6,7,8,12,13,14,15,18] (.br 4 (.br 9 (.br 10 (.br 11 (.br 16 (.rd 17 (.rd 19 (.br 20 (.rd 21 .fin) .fin))) .fin) (.br 16 (.br 11 (.rd 17 (.rd 19 (.br 20 (.rd 21 .fin) .fin))) .fin) .fin)) (.br 16 (.br 10 (.br 11 (.rd 17 (.rd 19 (.br 20 (.rd 21 .fin) .fin))) .fin) .fin) .fin)) (.br 16 (.br 9 (.br 10 (.br 11 (.rd 17 (.rd 19 (.br 20 (.rd 21 .fin) .fin))) .fin) .fin) .fin) .fin)) (.br 9 (.br 4 (.br 10 (.br 11 (.br 16 (.rd 17 (.rd 19 (.br 20 (.rd 21 .fin) .fin))) .fin) (.br 16 (.br 11 (.rd 17 (.rd 19 (.br 20 (.rd 21 .fin) .fin))) .fin) .fin)) (.br 16 (.br 10 (.br 11 (.rd 17 (.rd 19 (.br 20 (.rd 21 .fin) .fin))) .fin) .fin) .fin)) (.br 10 (.br 4 (.br 11 (.br 16 (.rd 17 (.rd 19 (.br 20 (.rd 21 .fin) .fin))) .fin) (.br 16 (.br 11 (.rd 17 (.rd 19 (.br 20 (.rd 21 .fin) .fin))) .fin) .fin)) (.br 16 (.br 4 (.br 11 (.rd 17 (.rd 19 (.br 20 (.rd 21 .fin) .fin))) .fin) .fin) .fin)) (.br 16 (.br 4 (.br 10 (.br 11 (.rd 17 (.rd 19 (.br 20 (.rd 21 .fin) .fin))) .fin) .fin) (.br 10 (.br 4 (.br 11 (.rd 17 (.rd 19 (.br 20 (.rd 21 .fin) .fin))) .fin) .fin) .fin)) .fin))) (.br 16 (.br 4 (.br 9 (.br 10 (.br 11 (.rd 17 (.rd 19 (.br 20 (.rd 21 .fin) .fin))) .fin) .fin) .fin) (.br 9 (.br 4 (.br 10 (.br 11 (.rd 17 (.rd 19 (.br 20 (.rd 21 .fin) .fin))) .fin) .fin) (.br 10 (.br 4 (.br 11 (.rd 17 (.rd 19 (.br 20 (.rd 21 .fin) .fin))) .fin) .fin) .fin)) .fin)) .fin)))) C kR kR kR (λ_ _ _ _ _ h=>h)<|A2 7 [0,0] (y<|y<|λ_=>GI C C C (λw hK=>(Ai C Iw hK.2.2 C:AK _ _ _ _ _ (iV (0-1)) _))<|A2 3 [] (λ_=>GI C C C (λw hK=>(Ai C Iw hK.2.2 C:AK _ _ _ _ _ (iV (0-1)) _))<|A2 1 [] (λ_=>Ag C ?_ ?_)));refine Aa 2 [] (λb8=>λ_=>AY [1] (λw f h _=>h.blk) C (λ_ h=>h)<|Ag C ?_ ?_);refine Bt C C (eC Hx C C) (λw f d=>DV w f d.vl (0-1)) (λx=>trivial) ?_;rintro⟨⟩ -;refine Aa 1 [] (λ_=>AY [1] (λw f h _=>h.blk) C (λ_ h=>h)<|Ag C ?_ ?_)
 refine Aa 2 [] (λb9=>λ_=>AY [2] (λw f h _=>h.blk) C (λ_ h=>h)<|Ag C ?_ ?_);refine Dc 1 C C<|Dc 0 C C<|Bt (α:=oA×Nat) C C (eC Dv C C) (λw f d=>B8 w f d.vl [1] (some ⟨b8,0,none⟩) 1 (T1.var (0-1)).one (some ⟨b9,0,none⟩) 1 dC dC tQ ⟨Nat.le_refl _,.inr ⟨b8,0,C,d.b1⟩⟩ (Dg (l:=[(.var (0-1),none,0)]) ⟨Ak.nil _ _ _ _,tQ⟩ d.b0) p.2.2 O Q D d.f0) (λ_=>⟨Ak.mono,tQ⟩) ?_;rintro⟨F,G⟩ -;refine Aa 1 [] (λ_=>AY [0] (λw f h _=>h.blk) C (λ_ h=>.tail _ (.tail _ h))<|Ag C ?_ Aj);refine Aa 2 [] (λb10=>λ_=>AY [1] (λw f h _=>h.blk) C (λ_ h=>.tail _ (.tail _ h))<|A2 2 [] (λ_=>Ag C ?_ Aj));exact Aa 2 [] (λb11=>λ_=>AY [2] (λw f h _=>h.blk) C (λ_ h=>.tail _ (.tail _ h))<|A2 1 [] (λ_=>Bm<|Dc 0 C C<|Dc 0 C C<|IB (some ⟨b11,0,none⟩) tQ lE (λw f d=>⟨f,(d.more (B':=[]) (F':=[λw f=>AJ w f (QS p::Hi i) (some ⟨b11,0,none⟩)]) nE (AI.mem ⟨⟨b11,F,G,some ⟨b10,0,none⟩,1,L,C,d.b1,d.f0,⟨Nat.le_refl _,.inr ⟨b10,0,C,d.b0⟩⟩,d.f3⟩,tQ⟩) (Aw.mem ⟨AJ.mono,tQ⟩)).less (sD sZ) sR nE (mR [3,0])⟩)));refine Ag C ?_ Aj;refine Aa 2 [] (λb12=>λ_=>AY [3] (λw f h _=>h.blk) C (λ_ h=>h)<|Ag C ?_ Aj);refine Dc 2 C C<|Dc 1 C C<|Bt (α:=oA×Nat) C C (eC Dv C C) (λw f d=>B8 w f d.vl [1] (some ⟨b8,0,none⟩) 1 (T1.var (0-1)).one (some ⟨b9,0,none⟩) 1 dC dC tQ ⟨Nat.le_refl _,.inr ⟨b8,0,C,d.b1⟩⟩ (Dg (l:=[(.var (0-1),none,0)]) ⟨Ak.nil _ _ _ _,tQ⟩ d.b0) p.2.2 O Q D d.f0) (λ_=>⟨Ak.mono,tQ⟩) ?_;rintro⟨F,G⟩ -;refine Aa 1 [] (λ_=>AY [1] (λw f h _=>h.blk) C (λ_ h=>.tail _ (.tail _ h))<|A2 2 [] (λ_=>Ag C ?_ Aj));exact Aa 2 [] (λb13=>λ_=>AY [2] (λw f h _=>h.blk) C (λ_ h=>.tail _ (.tail _ h))<|A2 1 [] (λ_=>Bm<|Dc 0 C C<|Dc 0 C C<|IB (some ⟨b13,0,none⟩) tQ lE (λw f d=>⟨f,(d.more (B':=[]) (F':=[λw f=>AJ w f (QS p::Hi i) (some ⟨b13,0,none⟩)]) nE (AI.mem ⟨⟨b13,F,G,some ⟨b12,0,none⟩,1,L,C,d.b1,d.f0,⟨Nat.le_refl _,.inr ⟨b12,0,C,d.b0⟩⟩,d.f3⟩,tQ⟩) (Aw.mem ⟨AJ.mono,tQ⟩)).less (sD sZ) sR nE (mR [3,0])⟩)));refine Ag C ?_ Aj;refine Aa 2 [] (λb14=>λ_=>AY [2] (λw f h _=>h.blk) C (λ_ h=>h)<|Ag C ?_ Aj);refine Aa 2 [] (λb15=>λ_=>AY [3] (λw f h _=>h.blk) C (λ_ h=>h)<|Ag C ?_ Aj);refine Dc 2 C C<|Dc 0 C C<|Bt (α:=oA×Nat) C C (eC Dv C C) (λw f d=>B8 w f d.vl [1] (some ⟨b8,0,none⟩) 1 (T1.var (0-1)).one (some ⟨b15,0,none⟩) 1 dC dC tQ ⟨Nat.le_refl _,.inr ⟨b8,0,C,d.b1⟩⟩ (Dg (l:=[(.var (0-1),none,0)]) ⟨Ak.nil _ _ _ _,tQ⟩ d.b0) p.2.2 O Q D d.f0) (λ_=>⟨Ak.mono,tQ⟩) ?_;rintro⟨F,G⟩ -;refine Aa 1 [] (λ_=>AY [1] (λw f h _=>h.blk) C (λ_ h=>.tail _ (.tail _ h))<|A2 2 [] (λ_=>Ag C ?_ Aj))
 exact Aa 2 [] (λb16=>λ_=>AY [2] (λw f h _=>h.blk) C (λ_ h=>.tail _ (.tail _ h))<|A2 1 [] (λ_=>Bm<|Dc 0 C C<|Dc 0 C C<|IB (some ⟨b16,0,none⟩) tQ lE (λw f d=>⟨f,(d.more (B':=[]) (F':=[λw f=>AJ w f (QS p::Hi i) (some ⟨b16,0,none⟩)]) nE (AI.mem ⟨⟨b16,F,G,some ⟨b14,0,none⟩,1,L,C,d.b1,d.f0,⟨Nat.le_refl _,.inr ⟨b14,0,C,d.b0⟩⟩,d.f3⟩,tQ⟩) (Aw.mem ⟨AJ.mono,tQ⟩)).less (sD sZ) sR nE (mR [3,0])⟩)));refine Ag C ?_ Aj;refine Aa 2 [] (λb17=>λ_=>AY [2] (λw f h _=>h.blk) C (λ_ h=>h)<|Ag C ?_ Aj);refine Bt C C (eC Hx C C) (λw f d=>DV w f d.vl (0-1)) (λx=>trivial) ?_;rintro⟨⟩ -;refine Aa 1 [] (λ_=>AY [2] (λw f h _=>h.blk) C (λ_ h=>h)<|Ag C ?_ Aj);refine Aa 2 [] (λb18=>λ_=>AY [3] (λw f h _=>h.blk) C (λ_ h=>h)<|Ag C ?_ Aj);refine Dc 2 C C<|Dc 0 C C<|Bt (α:=oA×Nat) C C (eC Dv C C) (λw f d=>B8 w f d.vl [1] (some ⟨b8,0,none⟩) 1 (T1.var (0-1)).one (some ⟨b18,0,none⟩) 1 dC dC tQ ⟨Nat.le_refl _,.inr ⟨b8,0,C,d.b1⟩⟩ (Dg (l:=[(.var (0-1),none,0)]) ⟨Ak.nil _ _ _ _,tQ⟩ d.b0) p.2.2 O Q D d.f0) (λ_=>⟨Ak.mono,tQ⟩) ?_;rintro⟨F,G⟩ -;refine Aa 1 [] (λ_=>AY [1] (λw f h _=>h.blk) C (λ_ h=>.tail _ (.tail _ h))<|A2 2 [] (λ_=>Ag C ?_ Aj));exact Aa 2 [] (λb19=>λ_=>AY [2] (λw f h _=>h.blk) C (λ_ h=>.tail _ (.tail _ h))<|A2 1 [] (λ_=>Bm<|Dc 0 C C<|Dc 0 C C<|IB (some ⟨b19,0,none⟩) tQ lE (λw f d=>⟨f,(d.more (B':=[]) (F':=[λw f=>AJ w f (QS p::Hi i) (some ⟨b19,0,none⟩)]) nE (AI.mem ⟨⟨b19,F,G,some ⟨b17,0,none⟩,1,L,C,d.b1,d.f0,⟨Nat.le_refl _,.inr ⟨b17,0,C,d.b0⟩⟩,d.f3⟩,tQ⟩) (Aw.mem ⟨AJ.mono,tQ⟩)).less (sD sZ) sR nE (mR [3,0])⟩)));refine Ag C ?_ ?_;refine Bt C C (eC Hx C C) (λw f d=>DV w f d.vl (0-1)) (λx=>trivial) ?_;rintro⟨⟩ -;refine Aa 1 [] (λ_=>AY [0] (λw f h _=>h.blk) C (λ_ h=>h)<|Ag C ?_ ?_);refine Aa 2 [] (λU=>λ_=>AY [1] (λw f h _=>h.blk) C (λ_ h=>h)<|Ag C ?_ ?_);refine Aa 2 [] (λb21=>λ_=>AY [2] (λw f h _=>h.blk) C (λ_ h=>h)<|Ag C ?_ ?_);refine Dc 1 C C<|Dc 0 C C<|Bt (α:=oA×Nat) C C (eC Dv C C) (λw f d=>B8 w f d.vl [1] (some ⟨U,0,none⟩) 1 (T1.var (0-1)).one (some ⟨b21,0,none⟩) 1 dC dC tQ ⟨Nat.le_refl _,.inr ⟨U,0,C,d.b1⟩⟩ (Dg (l:=[(.var (0-1),none,0)]) ⟨Ak.nil _ _ _ _,tQ⟩ d.b0) p.2.2 O Q D d.f0) (λ_=>⟨Ak.mono,tQ⟩) ?_;rintro⟨F,G⟩ -;refine Aa 1 [] (λ_=>AY [0] (λw f h _=>h.blk) C (λ_ h=>.tail _ (.tail _ h))<|Ag C ?_ Aj);refine Aa 2 [] (λb22=>λ_=>AY [1] (λw f h _=>h.blk) C (λ_ h=>.tail _ (.tail _ h))<|A2 2 [] (λ_=>Ag C ?_ Aj))
 exact Aa 2 [] (λb23=>λ_=>AY [2] (λw f h _=>h.blk) C (λ_ h=>.tail _ (.tail _ h))<|A2 1 [] (λ_=>Bm<|Dc 0 C C<|Dc 0 C C<|IB (some ⟨b23,0,none⟩) tQ lE (λw f d=>⟨f,(d.more (B':=[]) (F':=[λw f=>AJ w f (QS p::Hi i) (some ⟨b23,0,none⟩)]) nE (AI.mem ⟨⟨b23,F,G,some ⟨b22,0,none⟩,1,L,C,d.b1,d.f0,⟨Nat.le_refl _,.inr ⟨b22,0,C,d.b0⟩⟩,d.f3⟩,tQ⟩) (Aw.mem ⟨AJ.mono,tQ⟩)).less (sD sZ) sR nE (mR [3,0])⟩)));refine Ag C ?_ Aj;refine Aa 2 [] (λb24=>λ_=>AY [3] (λw f h _=>h.blk) C (λ_ h=>h)<|Ag C ?_ Aj);refine Dc 2 C C<|Dc 1 C C<|Bt (α:=oA×Nat) C C (eC Dv C C) (λw f d=>B8 w f d.vl [1] (some ⟨U,0,none⟩) 1 (T1.var (0-1)).one (some ⟨b21,0,none⟩) 1 dC dC tQ ⟨Nat.le_refl _,.inr ⟨U,0,C,d.b1⟩⟩ (Dg (l:=[(.var (0-1),none,0)]) ⟨Ak.nil _ _ _ _,tQ⟩ d.b0) p.2.2 O Q D d.f0) (λ_=>⟨Ak.mono,tQ⟩) ?_;rintro⟨F,G⟩ -;refine Aa 1 [] (λ_=>AY [1] (λw f h _=>h.blk) C (λ_ h=>.tail _ (.tail _ h))<|A2 2 [] (λ_=>Ag C ?_ Aj));exact Aa 2 [] (λb25=>λ_=>AY [2] (λw f h _=>h.blk) C (λ_ h=>.tail _ (.tail _ h))<|A2 1 [] (λ_=>Bm<|Dc 0 C C<|Dc 0 C C<|IB (some ⟨b25,0,none⟩) tQ lE (λw f d=>⟨f,(d.more (B':=[]) (F':=[λw f=>AJ w f (QS p::Hi i) (some ⟨b25,0,none⟩)]) nE (AI.mem ⟨⟨b25,F,G,some ⟨b24,0,none⟩,1,L,C,d.b1,d.f0,⟨Nat.le_refl _,.inr ⟨b24,0,C,d.b0⟩⟩,d.f3⟩,tQ⟩) (Aw.mem ⟨AJ.mono,tQ⟩)).less (sD sZ) sR nE (mR [3,0])⟩)));refine Ag C ?_ Aj;refine Aa 2 [] (λb26=>λ_=>AY [2] (λw f h _=>h.blk) C (λ_ h=>h)<|Ag C ?_ Aj);refine Aa 2 [] (λb27=>λ_=>AY [3] (λw f h _=>h.blk) C (λ_ h=>h)<|Ag C ?_ Aj);refine Dc 2 C C<|Dc 0 C C<|Bt (α:=oA×Nat) C C (eC Dv C C) (λw f d=>B8 w f d.vl [1] (some ⟨U,0,none⟩) 1 (T1.var (0-1)).one (some ⟨b27,0,none⟩) 1 dC dC tQ ⟨Nat.le_refl _,.inr ⟨U,0,C,d.b1⟩⟩ (Dg (l:=[(.var (0-1),none,0)]) ⟨Ak.nil _ _ _ _,tQ⟩ d.b0) p.2.2 O Q D d.f0) (λ_=>⟨Ak.mono,tQ⟩) ?_;rintro⟨F,G⟩ -;refine Aa 1 [] (λ_=>AY [1] (λw f h _=>h.blk) C (λ_ h=>.tail _ (.tail _ h))<|A2 2 [] (λ_=>Ag C ?_ Aj));exact Aa 2 [] (λb28=>λ_=>AY [2] (λw f h _=>h.blk) C (λ_ h=>.tail _ (.tail _ h))<|A2 1 [] (λ_=>Bm<|Dc 0 C C<|Dc 0 C C<|IB (some ⟨b28,0,none⟩) tQ lE (λw f d=>⟨f,(d.more (B':=[]) (F':=[λw f=>AJ w f (QS p::Hi i) (some ⟨b28,0,none⟩)]) nE (AI.mem ⟨⟨b28,F,G,some ⟨b26,0,none⟩,1,L,C,d.b1,d.f0,⟨Nat.le_refl _,.inr ⟨b26,0,C,d.b0⟩⟩,d.f3⟩,tQ⟩) (Aw.mem ⟨AJ.mono,tQ⟩)).less (sD sZ) sR nE (mR [3,0])⟩)));refine Ag C ?_ ?_;refine Aa 2 [] (λb29=>λ_=>AY [1] (λw f h _=>h.blk) C (λ_ h=>h)<|Ag C ?_ ?_);refine Aa 2 [] (λb30=>λ_=>AY [2] (λw f h _=>h.blk) C (λ_ h=>h)<|Ag C ?_ ?_)
 refine Dc 0 C C<|Dc 0 C C<|Bt (α:=oA×Nat) C C (eC Dv C C) (λw f d=>B8 w f d.vl [1] (some ⟨b30,0,none⟩) 1 (T1.var (0-1)).one (some ⟨b29,0,none⟩) 1 dC dC tQ ⟨Nat.le_refl _,.inr ⟨b30,0,C,d.b1⟩⟩ (Dg (l:=[(.var (0-1),none,0)]) ⟨Ak.nil _ _ _ _,tQ⟩ d.b0) p.2.2 O Q D d.f0) (λ_=>⟨Ak.mono,tQ⟩) ?_;rintro⟨F,G⟩ -;refine Aa 1 [] (λ_=>AY [0] (λw f h _=>h.blk) C (λ_ h=>.tail _ (.tail _ h))<|Ag C ?_ Aj);refine Aa 2 [] (λb31=>λ_=>AY [1] (λw f h _=>h.blk) C (λ_ h=>.tail _ (.tail _ h))<|A2 2 [] (λ_=>Ag C ?_ Aj));exact Aa 2 [] (λb32=>λ_=>AY [2] (λw f h _=>h.blk) C (λ_ h=>.tail _ (.tail _ h))<|A2 1 [] (λ_=>Bm<|Dc 0 C C<|Dc 0 C C<|IB (some ⟨b32,0,none⟩) tQ lE (λw f d=>⟨f,(d.more (B':=[]) (F':=[λw f=>AJ w f (QS p::Hi i) (some ⟨b32,0,none⟩)]) nE (AI.mem ⟨⟨b32,F,G,some ⟨b31,0,none⟩,1,L,C,d.b1,d.f0,⟨Nat.le_refl _,.inr ⟨b31,0,C,d.b0⟩⟩,d.f3⟩,tQ⟩) (Aw.mem ⟨AJ.mono,tQ⟩)).less (sD sZ) sR nE (mR [3,0])⟩)));refine Ag C ?_ Aj;refine Aa 2 [] (λb33=>λ_=>AY [3] (λw f h _=>h.blk) C (λ_ h=>h)<|Ag C ?_ Aj);refine Dc 1 C C<|Dc 1 C C<|Bt (α:=oA×Nat) C C (eC Dv C C) (λw f d=>B8 w f d.vl [1] (some ⟨b30,0,none⟩) 1 (T1.var (0-1)).one (some ⟨b29,0,none⟩) 1 dC dC tQ ⟨Nat.le_refl _,.inr ⟨b30,0,C,d.b1⟩⟩ (Dg (l:=[(.var (0-1),none,0)]) ⟨Ak.nil _ _ _ _,tQ⟩ d.b0) p.2.2 O Q D d.f0) (λ_=>⟨Ak.mono,tQ⟩) ?_;rintro⟨F,G⟩ -;refine Aa 1 [] (λ_=>AY [1] (λw f h _=>h.blk) C (λ_ h=>.tail _ (.tail _ h))<|A2 2 [] (λ_=>Ag C ?_ Aj));exact Aa 2 [] (λb34=>λ_=>AY [2] (λw f h _=>h.blk) C (λ_ h=>.tail _ (.tail _ h))<|A2 1 [] (λ_=>Bm<|Dc 0 C C<|Dc 0 C C<|IB (some ⟨b34,0,none⟩) tQ lE (λw f d=>⟨f,(d.more (B':=[]) (F':=[λw f=>AJ w f (QS p::Hi i) (some ⟨b34,0,none⟩)]) nE (AI.mem ⟨⟨b34,F,G,some ⟨b33,0,none⟩,1,L,C,d.b1,d.f0,⟨Nat.le_refl _,.inr ⟨b33,0,C,d.b0⟩⟩,d.f3⟩,tQ⟩) (Aw.mem ⟨AJ.mono,tQ⟩)).less (sD sZ) sR nE (mR [3,0])⟩)));refine Ag C ?_ Aj;refine Aa 2 [] (λb35=>λ_=>AY [2] (λw f h _=>h.blk) C (λ_ h=>h)<|Ag C ?_ Aj);refine Aa 2 [] (λb36=>λ_=>AY [3] (λw f h _=>h.blk) C (λ_ h=>h)<|Ag C ?_ Aj);refine Dc 0 C C<|Dc 1 C C<|Bt (α:=oA×Nat) C C (eC Dv C C) (λw f d=>B8 w f d.vl [1] (some ⟨b36,0,none⟩) 1 (T1.var (0-1)).one (some ⟨b29,0,none⟩) 1 dC dC tQ ⟨Nat.le_refl _,.inr ⟨b36,0,C,d.b1⟩⟩ (Dg (l:=[(.var (0-1),none,0)]) ⟨Ak.nil _ _ _ _,tQ⟩ d.b0) p.2.2 O Q D d.f0) (λ_=>⟨Ak.mono,tQ⟩) ?_;rintro⟨F,G⟩ -;refine Aa 1 [] (λ_=>AY [1] (λw f h _=>h.blk) C (λ_ h=>.tail _ (.tail _ h))<|A2 2 [] (λ_=>Ag C ?_ Aj))
 exact Aa 2 [] (λb37=>λ_=>AY [2] (λw f h _=>h.blk) C (λ_ h=>.tail _ (.tail _ h))<|A2 1 [] (λ_=>Bm<|Dc 0 C C<|Dc 0 C C<|IB (some ⟨b37,0,none⟩) tQ lE (λw f d=>⟨f,(d.more (B':=[]) (F':=[λw f=>AJ w f (QS p::Hi i) (some ⟨b37,0,none⟩)]) nE (AI.mem ⟨⟨b37,F,G,some ⟨b35,0,none⟩,1,L,C,d.b1,d.f0,⟨Nat.le_refl _,.inr ⟨b35,0,C,d.b0⟩⟩,d.f3⟩,tQ⟩) (Aw.mem ⟨AJ.mono,tQ⟩)).less (sD sZ) sR nE (mR [3,0])⟩)));refine Ag C ?_ Aj;refine Aa 2 [] (λb38=>λ_=>AY [1] (λw f h _=>h.blk) C (λ_ h=>h)<|Ag C ?_ ?_);refine Aa 2 [] (λb39=>λ_=>AY [2] (λw f h _=>h.blk) C (λ_ h=>h)<|Ag C ?_ Aj);refine Aa 2 [] (λb40=>λ_=>AY [3] (λw f h _=>h.blk) C (λ_ h=>h)<|Ag C ?_ Aj);refine Dc 1 C C<|Dc 0 C C<|Bt (α:=oA×Nat) C C (eC Dv C C) (λw f d=>B8 w f d.vl [1] (some ⟨b39,0,none⟩) 1 (T1.var (0-1)).one (some ⟨b40,0,none⟩) 1 dC dC tQ ⟨Nat.le_refl _,.inr ⟨b39,0,C,d.b1⟩⟩ (Dg (l:=[(.var (0-1),none,0)]) ⟨Ak.nil _ _ _ _,tQ⟩ d.b0) p.2.2 O Q D d.f0) (λ_=>⟨Ak.mono,tQ⟩) ?_;rintro⟨F,G⟩ -;refine Aa 1 [] (λ_=>AY [1] (λw f h _=>h.blk) C (λ_ h=>.tail _ (.tail _ h))<|A2 2 [] (λ_=>Ag C ?_ Aj));exact Aa 2 [] (λb41=>λ_=>AY [2] (λw f h _=>h.blk) C (λ_ h=>.tail _ (.tail _ h))<|A2 1 [] (λ_=>Bm<|Dc 0 C C<|Dc 0 C C<|IB (some ⟨b41,0,none⟩) tQ lE (λw f d=>⟨f,(d.more (B':=[]) (F':=[λw f=>AJ w f (QS p::Hi i) (some ⟨b41,0,none⟩)]) nE (AI.mem ⟨⟨b41,F,G,some ⟨b38,0,none⟩,1,L,C,d.b1,d.f0,⟨Nat.le_refl _,.inr ⟨b38,0,C,d.b0⟩⟩,d.f3⟩,tQ⟩) (Aw.mem ⟨AJ.mono,tQ⟩)).less (sD sZ) sR nE (mR [3,0])⟩)));refine Ag C ?_ Aj;refine Aa 2 [] (λb42=>λ_=>AY [2] (λw f h _=>h.blk) C (λ_ h=>h)<|Ag C ?_ Aj);refine Aa 2 [] (λb43=>λ_=>AY [3] (λw f h _=>h.blk) C (λ_ h=>h)<|Ag C ?_ Aj);refine Dc 0 C C<|Dc 0 C C<|Bt (α:=oA×Nat) C C (eC Dv C C) (λw f d=>B8 w f d.vl [1] (some ⟨b43,0,none⟩) 1 (T1.var (0-1)).one (some ⟨b42,0,none⟩) 1 dC dC tQ ⟨Nat.le_refl _,.inr ⟨b43,0,C,d.b1⟩⟩ (Dg (l:=[(.var (0-1),none,0)]) ⟨Ak.nil _ _ _ _,tQ⟩ d.b0) p.2.2 O Q D d.f0) (λ_=>⟨Ak.mono,tQ⟩) ?_;rintro⟨F,G⟩ -;refine Aa 1 [] (λ_=>AY [1] (λw f h _=>h.blk) C (λ_ h=>.tail _ (.tail _ h))<|A2 2 [] (λ_=>Ag C ?_ Aj));exact Aa 2 [] (λb44=>λ_=>AY [2] (λw f h _=>h.blk) C (λ_ h=>.tail _ (.tail _ h))<|A2 1 [] (λ_=>Bm<|Dc 0 C C<|Dc 0 C C<|IB (some ⟨b44,0,none⟩) tQ lE (λw f d=>⟨f,(d.more (B':=[]) (F':=[λw f=>AJ w f (QS p::Hi i) (some ⟨b44,0,none⟩)]) nE (AI.mem ⟨⟨b44,F,G,some ⟨b38,0,none⟩,1,L,C,d.b1,d.f0,⟨Nat.le_refl _,.inr ⟨b38,0,C,d.b0⟩⟩,d.f3⟩,tQ⟩) (Aw.mem ⟨AJ.mono,tQ⟩)).less (sD sZ) sR nE (mR [3,0])⟩)));refine Ag C ?_ Aj;refine Aa 2 [] (λY=>λ_=>AY [1] (λw f h _=>h.blk) C (λ_ h=>h)<|Ag C ?_ ?_);refine Aa 2 [] (λb46=>λ_=>AY [2] (λw f h _=>h.blk) C (λ_ h=>h)<|Ag C ?_ Aj)
 refine Bt C C (eC Hx C C) (λw f d=>DV w f d.vl (0-1)) (λx=>trivial) ?_;rintro⟨⟩ -;refine Aa 1 [] (λ_=>AY [2] (λw f h _=>h.blk) C (λ_ h=>h)<|Ag C ?_ Aj);refine Aa 2 [] (λb47=>λ_=>AY [3] (λw f h _=>h.blk) C (λ_ h=>h)<|Ag C ?_ Aj);refine Dc 1 C C<|Dc 0 C C<|Bt (α:=oA×Nat) C C (eC Dv C C) (λw f d=>B8 w f d.vl [1] (some ⟨b46,0,none⟩) 1 (T1.var (0-1)).one (some ⟨b47,0,none⟩) 1 dC dC tQ ⟨Nat.le_refl _,.inr ⟨b46,0,C,d.b1⟩⟩ (Dg (l:=[(.var (0-1),none,0)]) ⟨Ak.nil _ _ _ _,tQ⟩ d.b0) p.2.2 O Q D d.f0) (λ_=>⟨Ak.mono,tQ⟩) ?_;rintro⟨F,G⟩ -;refine Aa 1 [] (λ_=>AY [1] (λw f h _=>h.blk) C (λ_ h=>.tail _ (.tail _ h))<|A2 2 [] (λ_=>Ag C ?_ Aj));exact Aa 2 [] (λb48=>λ_=>AY [2] (λw f h _=>h.blk) C (λ_ h=>.tail _ (.tail _ h))<|A2 1 [] (λ_=>Bm<|Dc 0 C C<|Dc 0 C C<|IB (some ⟨b48,0,none⟩) tQ lE (λw f d=>⟨f,(d.more (B':=[]) (F':=[λw f=>AJ w f (QS p::Hi i) (some ⟨b48,0,none⟩)]) nE (AI.mem ⟨⟨b48,F,G,some ⟨Y,0,none⟩,1,L,C,d.b1,d.f0,⟨Nat.le_refl _,.inr ⟨Y,0,C,d.b0⟩⟩,d.f3⟩,tQ⟩) (Aw.mem ⟨AJ.mono,tQ⟩)).less (sD sZ) sR nE (mR [3,0])⟩)));refine Ag C ?_ Aj;refine Bt C C (eC Hx C C) (λw f d=>DV w f d.vl (0-1)) (λx=>trivial) ?_;rintro⟨⟩ -;refine Aa 1 [] (λ_=>AY [1] (λw f h _=>h.blk) C (λ_ h=>h)<|Ag C ?_ ?_);refine Aa 2 [] (λb49=>λ_=>AY [2] (λw f h _=>h.blk) C (λ_ h=>h)<|Ag C ?_ Aj);refine Aa 2 [] (λb50=>λ_=>AY [3] (λw f h _=>h.blk) C (λ_ h=>h)<|Ag C ?_ Aj);refine Dc 1 C C<|Dc 0 C C<|Bt (α:=oA×Nat) C C (eC Dv C C) (λw f d=>B8 w f d.vl [1] (some ⟨b49,0,none⟩) 1 (T1.var (0-1)).one (some ⟨b50,0,none⟩) 1 dC dC tQ ⟨Nat.le_refl _,.inr ⟨b49,0,C,d.b1⟩⟩ (Dg (l:=[(.var (0-1),none,0)]) ⟨Ak.nil _ _ _ _,tQ⟩ d.b0) p.2.2 O Q D d.f0) (λ_=>⟨Ak.mono,tQ⟩) ?_;rintro⟨F,G⟩ -;refine Aa 1 [] (λ_=>AY [1] (λw f h _=>h.blk) C (λ_ h=>.tail _ (.tail _ h))<|A2 2 [] (λ_=>Ag C ?_ Aj));exact Aa 2 [] (λb51=>λ_=>AY [2] (λw f h _=>h.blk) C (λ_ h=>.tail _ (.tail _ h))<|A2 1 [] (λ_=>Bm<|Dc 0 C C<|Dc 0 C C<|IB (some ⟨b51,0,none⟩) tQ lE (λw f d=>⟨f,(d.more (B':=[]) (F':=[λw f=>AJ w f (QS p::Hi i) (some ⟨b51,0,none⟩)]) nE (AI.mem ⟨⟨b51,F,G,some ⟨Y,0,none⟩,1,L,C,d.b1,d.f0,⟨Nat.le_refl _,.inr ⟨Y,0,C,d.b0⟩⟩,d.f3⟩,tQ⟩) (Aw.mem ⟨AJ.mono,tQ⟩)).less (sD sZ) sR nE (mR [3,0])⟩)));refine Ag C ?_ Aj;refine Aa 2 [] (λb52=>λ_=>AY [2] (λw f h _=>h.blk) C (λ_ h=>h)<|Ag C ?_ Aj);refine Aa 2 [] (λb53=>λ_=>AY [3] (λw f h _=>h.blk) C (λ_ h=>h)<|Ag C ?_ Aj)
 refine Dc 0 C C<|Dc 0 C C<|Bt (α:=oA×Nat) C C (eC Dv C C) (λw f d=>B8 w f d.vl [1] (some ⟨b53,0,none⟩) 1 (T1.var (0-1)).one (some ⟨b52,0,none⟩) 1 dC dC tQ ⟨Nat.le_refl _,.inr ⟨b53,0,C,d.b1⟩⟩ (Dg (l:=[(.var (0-1),none,0)]) ⟨Ak.nil _ _ _ _,tQ⟩ d.b0) p.2.2 O Q D d.f0) (λ_=>⟨Ak.mono,tQ⟩) ?_;rintro⟨F,G⟩ -;refine Aa 1 [] (λ_=>AY [1] (λw f h _=>h.blk) C (λ_ h=>.tail _ (.tail _ h))<|A2 2 [] (λ_=>Ag C ?_ Aj));exact Aa 2 [] (λb54=>λ_=>AY [2] (λw f h _=>h.blk) C (λ_ h=>.tail _ (.tail _ h))<|A2 1 [] (λ_=>Bm<|Dc 0 C C<|Dc 0 C C<|IB (some ⟨b54,0,none⟩) tQ lE (λw f d=>⟨f,(d.more (B':=[]) (F':=[λw f=>AJ w f (QS p::Hi i) (some ⟨b54,0,none⟩)]) nE (AI.mem ⟨⟨b54,F,G,some ⟨Y,0,none⟩,1,L,C,d.b1,d.f0,⟨Nat.le_refl _,.inr ⟨Y,0,C,d.b0⟩⟩,d.f3⟩,tQ⟩) (Aw.mem ⟨AJ.mono,tQ⟩)).less (sD sZ) sR nE (mR [3,0])⟩)));rintro ea2 -;dsimp only;exact Aa 6 [] (aI ⟨oM,oM⟩<|λ_=>Df ((i+1,ea2)) (show Ck.length-(i+1)<Ck.length-i by omega) (show i+1≤_ by omega) lE (λw f d=>⟨_,by dsimp only;rw[Y5 hx];exact d⟩));refine Aa 3 [] (λ_=>Fh<|Aa 11 [] (λ_=>?_));obtain rfl:i=Ck.length:=by have:=dF h3;omega
 exact AR (λw f d=>Cn C (Ah C) (Ah C)) (λw f d=>⟨(A,L),f,C,hA,d.exm,(λb hb=>let ⟨h1,h2,h3⟩:=d.mi b hb;h3.elim (λh=>.inr ⟨h,h1,h2⟩) .inl),d.res,⟨Ss▸d.f1,tQ⟩⟩)
theorem Tj(w:wO)(c2 c3 c4:Nat) :
  CallsD prog 21 [pB c2,pB c3,pB c4].toArray .returning w λr m w'=>∃x,r=.returned x∧m=.returning∧AU w w':=by
 refine D0 (R:=λw'=>AU w w') func21 C C C C NU<|(?_:A3 prog _ (FR prog _ (λ_ w'=>AU w w') λ_ _=>False) [] (X0 w (λ_=>0)) [] [] [] (.code _) [] _ []) w (λ_=>0) (Ci (λ_ _=>C) tQ tQ);exact Aa 3 [] (λ_=>Dn C C (λw f d=>RO Rm C)<|Aa 7 [] (λ_=>mJ (λw f d=>DL C) (λw f d=>d.exm.stp.ext)))
theorem UQ(w:wO)(f:Fq)(J:Vl w f)(c2 c3 c4:Nat)(v2 G y3 v4:Value)(h:AM w c2 [v2] 49)(D:AM w c3 [G,y3] 27)(F:AM w c4 [v4] 28)(K:f c2=0∧f c3=0∧f c4=0)(L:c2≠c3∧c2≠c4∧c3≠c4)(er:Er) :
  CallsD prog 21 [pB c2,pB c3,pB c4].toArray (.panicking (trI 67 er)) w λr m w'=>∃x,r=.returned x∧m=.panicking [{v:=.iface 67 (.agg #[iV er.1,iV er.2.1,iV er.2.2]),recovered:=true}]∧(∃f',CK (λb=>b=c2∨b=c3∨b=c4) w f w' f'∧AM w' c2 [.slice none 0 0] 49∧AM w' c3 [iV er.1,iV er.2.1] 27∧AM w' c4 [iV er.2.2] 28):=by
 refine D0 (R:=λw'=>∃f',CK (λb=>b=c2∨b=c3∨b=c4) w f w' f'∧AM w' c2 [.slice none 0 0] 49∧AM w' c3 [iV er.1,iV er.2.1] 27∧AM w' c4 [iV er.2.2] 28) func21 C C C C Sj<|(?_:A3 prog _ (FR prog _ (λ_ w'=>∃f',CK (λb=>b=c2∨b=c3∨b=c4) w f w' f'∧AM w' c2 [.slice none 0 0] 49∧AM w' c3 [iV er.1,iV er.2.1] 27∧AM w' c4 [iV er.2.2] 28) λ_ _=>False) [] ⟨λb=>b=c2∨b=c3∨b=c4,λ_=>False,λ_ _=>True,w,f⟩ [] [] [] (.code _) [] _ [⟨c2,[v2],49,false⟩,⟨c3,[G,y3],27,false⟩,⟨c4,[v4],28,false⟩]) w f (qJ J h D F K L);refine Aa 3 [] (λ_=>Dn C C (λw f d=>Ri Rm C)<|Aa 5 [] (λ_=>Dn C C (λw f d=>V3 C tJ)<|Aa 11 [0] (λb1=>y<|λ_=>CF [0] Al (rd [0,1,2,3] (.br 4 (.br 5 (.br 6 .fin .fin) .fin) .fin)) C kR<|A2 4 [0,0] (y<|y<|λ_=>Ag C ?_ Aj))));refine Aa 2 [1] (y<|λ_=>Au [0] C<|Ag C ?_ Aj);refine Aa 2 [2] (y<|λ_=>Au [0] C<|Ag C ?_ Aj);exact Aa 2 [3] (y<|λ_=>Au [0] C<|Bm<|Aa 1 [] (λ_=>mJ (λw f d=>DL C) (λw f d=>⟨f,d.exm,d.blk _ tG,d.blk _ WU,d.blk _ WN⟩)))
end Go.Proofs.YtelmolopaolbcaaGreatDoor
namespace Go.SP
open Go.SW Go.RowKit
def Nd.wft:Nd→Prop
 |.nil=>True
 |.cons op _ _ _ _ k r=>(op=41∨(op=43∧k.wfm 2)∨((op=44∨op=45∨op=46)∧k.wfm 3))∧r.wft
def Ga:List (lU×T1)→Ty
 | []=>.nil
 |b::l=>b.2.cons (Ga l)
theorem Ej(b:lU×T1):∀l:List (lU×T1),Ga (l++[b])=(Ga l).snoc b.2
 | []=>by simp[Ga,Ty.snoc,Ty.app,T1.one]
 |c::l=>by
   simp only[List.cons_append,Ga,Ej b l]
   cases c.2 <;> rfl
def bC:List (lU×lU)→lV
 | []=>[]
 |b::l=>S b.1::S b.2::bC l
theorem bC_app:∀a b:List (lU×lU),bC (a++b)=bC a++bC b
 | [],_=>rfl
 |x::a,b=>by simp only[List.cons_append,bC,bC_app a b]
theorem aM:∀a:List (lU×lU),(bC a).length=a.length*2
 | []=>rfl
 |x::a=>by simp only[bC,List.length_cons,aM a];omega
abbrev Ws(l:List (lU×T1)):List (lU×lU):=l.map λb=>(b.1,[])
section
variable{s s1:CS}{e e1:Ba}{op ln co nm:Int}{tx:lU}{k r:Nd}{out:List (lU×T1)}{er:Er}
theorem VT(h:Ds s e op ln co tx k=.ok (none,e1,s1)):DQ s e (.cons op ln co tx nm k r) out=DQ s1 e1 r out:=by rw[DQ,h]
theorem IZ{b:lU×T1}(h:Ds s e op ln co tx k=.ok (some b,e1,s1)):DQ s e (.cons op ln co tx nm k r) out=DQ s1 e1 r (out++[b]):=by rw[DQ,h]
theorem DJ(h:Ds s e op ln co tx k=.error er):DQ s e (.cons op ln co tx nm k r) out=.error er:=by rw[DQ,h]
end
structure Rel(Rl:CS→CS→Prop):Prop where
 refl:∀s,Rl s s
 trans:∀{s t u},Rl s t→Rl t u→Rl s u
 fresh:∀s,Rl s (A7 s).2
 has:∀{s a b ln co s'},EA s a b ln co=.ok s'→Rl s s'
section
variable{Rl:CS→CS→Prop}(hR:Rel Rl)
include hR
theorem N9:∀(l:List Int)(s:CS),Rl s (Bn l s).2
 | [],s=>hR.refl s
 |_::l,s=>hR.trans (hR.fresh s) (N9 l _)
variable {s s':CS}{co ln:Int}{n:Nat}{k:Nd}
theorem Sp{tx:lU}{k:Nat}{a:Ty}{o:T1}(h:Gq s tx k ln co=.ok (a,o,s')):Rl s s':=by
 unfold Gq at h
 split at h
 · cases h
 · split at h
   · cases h
     exact N9 hR _ _
   · cases h
theorem aX{e:Ba}{tx:lU}{t:T1}(h:HL s e tx ln co=.ok (t,s')):Rl s s':=by
 unfold HL at h
 split at h
 · cases h
 · split at h
   · cases h
   · cases h
     exact N9 hR _ _
def RelF(Rl:CS→CS→Prop)(p:MT):Prop:=∀{s e op ln co tx nm k t s'},p s e op ln co tx nm k=.ok (t,s')→Rl s s'
def zV(Rl:CS→CS→Prop)(p:OO):Prop:=∀{s e op ln co tx nm k t d s'},p s e op ln co tx nm k=.ok (t,d,s')→Rl s s'
variable{p:MT}(hp:RelF Rl p)
include hp
theorem Ol{e:Ba}:∀(k:Nd){s s':CS}{l:Ty},Ez p e s k=.ok (l,s')→Rl s s'
 |.nil,_,_,_,h=>by cases h;exact hR.refl _
 |.cons op ln co tx nm k r,s,s',l,h=>by
   unfold Ez at h
   split at h
   · cases h
   · rename_i d
     split at h
     · cases h
     · rename_i D
       cases h
       exact hR.trans (hp d) (Ol r D)
theorem Tv{e:Ba}:∀(k:Nd){s s':CS}{l:Ty},F8 p e s l k=.ok s'→Rl s s'
 |.nil,_,_,_,h=>by cases h;exact hR.refl _
 |.cons op ln co tx nm k r,s,s',l,h=>by
   unfold F8 at h
   split at h
   · cases h
   · rename_i d
     split at h
     · cases h
     · rename_i D
       exact hR.trans (hp d) (hR.trans (hR.has D) (Tv r h))
theorem Xb{e:Ba}:∀(k:Nd){s s':CS}{t t':T1},Kr p e s t k=.ok (t',s')→Rl s s'
 |.nil,_,_,_,_,h=>by cases h;exact hR.refl _
 |.cons op ln co tx nm k r,s,s',t,t',h=>by
   unfold Kr at h
   split at h
   · cases h
   · rename_i d
     split at h
     · cases h
     · rename_i D
       exact hR.trans (hp d) (hR.trans (hR.fresh _) (hR.trans (hR.has D) (Xb r h)))
theorem QV{e:Ba}{o l c m:Int}{tx x:lU}{t:T1}(h:HI p s e ln co tx o l c x m k=.ok (t,s')):Rl s s':=by
 unfold HI at h
 split at h
 · cases h
 · rename_i d
   split at h
   · cases h
   · rename_i D
     cases h
     exact hR.trans (hR.fresh _) (hR.trans (hp d) (hR.has D))
omit hp
theorem SH:∀(k:Nd){s:CS}{e:Ba},Rl s (FK s e k).2.2
 |.nil,_,_=>hR.refl _
 |.cons _ _ _ _ _ _ .nil,_,_=>hR.refl _
 |.cons _ _ _ _ _ _ (.cons o l c x m k r),_,_=>hR.trans (hR.fresh _) (SH (.cons o l c x m k r))
variable{q:OO}(hq:zV Rl q)
include hq
theorem PS:∀(k:Nd){s s':CS}{e d:Ba}{l:Ty},GD q s e l k=.ok (d,s')→Rl s s'
 |.nil,_,_,_,_,_,h=>by cases h;exact hR.refl _
 |.cons op ln co tx nm k r,s,s',e,d,l,h=>by
   unfold GD at h
   split at h
   · cases h
   · rename_i D
     split at h
     · cases h
     · rename_i F
       exact hR.trans (hq D) (hR.trans (hR.has F) (PS r h))
theorem Qn:∀(k:Nd){s s':CS}{e d:Ba}{l:Ty},FF q s e k=.ok (l,d,s')→Rl s s'
 |.nil,_,_,_,_,_,h=>by cases h;exact hR.refl _
 |.cons op ln co tx nm k r,s,s',e,d,l,h=>by
   unfold FF at h
   split at h
   · cases h
   · rename_i D
     split at h
     · cases h
     · rename_i F
       cases h
       exact hR.trans (hq D) (Qn r F)
theorem ZZ{e d:Ba}{op:Int}{tx:lU}{t:T1}(h:Dh q s e op ln co tx k=.ok (t,d,s')):Rl s s':=by
 unfold Dh at h
 repeat' (split at h)
 all_goals first|(cases h;first|exact hR.refl _|exact hR.fresh _|exact hR.trans (Sp hR (by assumption)) (PS hR hq _ (by assumption))|exact Qn hR hq _ (by assumption))|cases h
omit hq
theorem Xp:∀n,zV Rl (C4 n)
 |0=>λh=>by cases h
 |n+1=>λh=>by
   unfold C4 at h
   split at h
   · cases h
   · rename_i d
     split at h
     · cases h
     · cases h
       exact ZZ hR (Xp n) d
include hp
theorem KZ{e:Ba}{pt:T1}:∀(k:Nd){s s':CS}{t:Option T1}{u:T1},DH n p e pt s t k=.ok (u,s')→Rl s s'
 |.nil,_,_,_,_,h=>by unfold DH at h;cases h;exact hR.refl _
 |.cons _ _ _ _ _ J r,s,s',t,u,h=>by
   unfold DH at h
   split at h
   · split at h
     · cases h
     · rename_i d
       split at h
       · cases h
       · rename_i D
         split at h
         · cases h
         · rename_i F
           refine hR.trans (Xp hR _ d) (hR.trans (hR.has D) (hR.trans (hp F) ?_))
           split at h
           · split at h
             · cases h
             · rename_i G
               exact hR.trans (hR.has G) (KZ r h)
           · exact KZ r h
   · cases h
     exact hR.refl _
theorem iH{e:Ba}{op:Int}{tx:lU}{t:T1}(h:Bl n p s e op ln co tx k=.ok (t,s')):Rl s s':=by
 have D:=@Rel.trans _ hR;have Y:=@Rel.has _ hR;unfold Bl at h
 by_cases Z:(op==1)=true
 · rw[if_pos Z] at h
   cases h;exact hR.refl _
 rw[if_neg Z] at h
 by_cases o2:(op==2)=true
 · rw[if_pos o2] at h
   cases h;exact hR.refl _
 rw[if_neg o2] at h
 by_cases o3:(op==3)=true
 · rw[if_pos o3] at h
   cases h;exact hR.refl _
 rw[if_neg o3] at h
 by_cases o4:(op==4)=true
 · rw[if_pos o4] at h
   cases h;exact hR.refl _
 rw[if_neg o4] at h
 by_cases o5:(op==5)=true
 · rw[if_pos o5] at h
   exact aX hR h
 rw[if_neg o5] at h
 by_cases o6:(op==6)=true
 · rw[if_pos o6] at h
   split at h
   · cases h
   rename_i d
   split at h
   · cases h
   rename_i F
   cases h
   exact D (Sp hR d) (Tv hR hp _ F)
 rw[if_neg o6] at h
 by_cases o7:(op==7)=true
 · rw[if_pos o7] at h
   split at h
   · cases h
     exact hR.refl _
   simp only at h
   split at h
   · cases h
   rename_i d
   cases h
   exact D (SH hR _) (hp d)
 rw[if_neg o7] at h
 by_cases o8:(op==8)=true
 · rw[if_pos o8] at h
   split at h
   · cases h
     exact hR.refl _
   split at h
   · cases h
   rename_i d;exact D (hp d) (Xb hR hp _ h)
 rw[if_neg o8] at h
 by_cases o9:(op==9)=true
 · rw[if_pos o9] at h
   split at h
   · split at h
     · cases h
     rename_i d
     split at h
     · cases h
     exact D (hp d) (hp h)
   · cases h
     exact hR.refl _
 rw[if_neg o9] at h
 by_cases G:(op==10)=true
 · rw[if_pos G] at h
   split at h
   · split at h
     · cases h
     rename_i d
     split at h
     · cases h
     exact D (QV hR hp d) (hp h)
   · cases h
     exact hR.refl _
 rw[if_neg G] at h
 by_cases J:(op==11)=true
 · rw[if_pos J] at h
   split at h
   · split at h
     · cases h
     rename_i d
     split at h
     · cases h
     rename_i F
     split at h
     · cases h
     rename_i h3
     split at h
     · cases h
     rename_i h4
     split at h
     · cases h
     rename_i h5
     cases h
     exact D (hp d) (D (Y F) (D (hp h3) (D (hp h4) (Y h5))))
   · cases h
     exact hR.refl _
 rw[if_neg J] at h
 by_cases K:(op==12)=true
 · rw[if_pos K] at h
   split at h
   · cases h
   rename_i d
   cases h
   exact Ol hR hp _ d
 rw[if_neg K] at h
 by_cases L:(op==13)=true
 · rw[if_pos L] at h
   split at h
   · cases h
   rename_i d
   cases h
   exact Ol hR hp _ d
 rw[if_neg L] at h
 by_cases O:(op==14)=true
 · rw[if_pos O] at h
   split at h
   · cases h
     exact hR.refl _
   split at h
   · cases h
   rename_i d;exact D (hp d) (KZ hR hp _ h)
 rw[if_neg O] at h
 by_cases Q:(op==15)=true
 · rw[if_pos Q] at h
   split at h
   · cases h
     exact hR.refl _
   split at h
   · cases h
   rename_i d;exact D (hp d) (KZ hR hp _ h)
 rw[if_neg Q] at h
 by_cases U:(op==16)=true
 · rw[if_pos U] at h
   split at h
   · cases h
     exact hR.refl _
   split at h
   · cases h
   rename_i d
   split at h
   · cases h
   rename_i F
   cases h
   exact D (hp d) (D (Y F) (hR.fresh _))
 rw[if_neg U] at h
 split at h
 · cases h
   exact hR.refl _
 exact hp h
omit hp
theorem GS:∀n,RelF Rl (Ca n)
 |0=>λh=>by cases h
 |n+1=>λh=>by
   unfold Ca at h
   split at h
   · cases h
   · rename_i d
     split at h
     · cases h
     · cases h
       exact iH hR (GS n) d
end
def Frm(s s':CS):Prop:=s'.cons=s.cons∧s'.datas=s.datas∧s'.roots=s.roots∧s'.vars=s.vars
variable {s s':CS}{co ln:Int}
theorem jJ{a b:T1}(h:EA s a b ln co=.ok s'):∃m,G2 s.sol a b=.ok m∧s'={s with sol:=m}:=by
 unfold EA at h
 split at h
 · cases h
 · cases h
   exact⟨_,by assumption,C⟩
theorem EG:Rel Frm where
 refl _:=⟨C,C,C,C⟩
 trans d D:=⟨D.1.trans d.1,D.2.1.trans d.2.1,D.2.2.1.trans d.2.2.1,D.2.2.2.trans d.2.2.2⟩
 fresh _:=⟨C,C,C,C⟩
 has h:=by obtain⟨m,-,rfl⟩:=jJ h;exact⟨C,C,C,C⟩
section
variable{s s1 s2:CS}{e e1:Ba}{op ln co nm o l c m o2 l2 c2 m2:Int}{tx x x2:lU}{kids k r k2 r2:Nd}{t q:T1}{er:Er}
theorem Zg(h:(op==41)=true)(hd:FJ s ln co tx kids=.ok s1):Ds s e op ln co tx kids=.ok (none,e,s1):=by unfold Ds;rw[if_pos h,hd]
theorem Vw(h:(op==41)=true)(hd:FJ s ln co tx kids=.error er):Ds s e op ln co tx kids=.error er:=by unfold Ds;rw[if_pos h,hd]
theorem eY(h:(op==44)=true)(d:Ca (k.size+1) s e o l c x m k=.ok (t,s1))(hw:H5 s1 e tx t (C0 (k.size+1) o k) ln co=.ok e1):Ds s e op ln co tx (.cons o l c x m k r)=.ok (some (tx,t),e1,s1):=by
 obtain rfl:=beq_iff_eq.1 h;unfold Ds;rw[if_neg (by decide)];simp only;rw[if_neg (by decide),if_pos (by decide),d];simp only;rw[hw]
theorem Za(h:(op==44)=true)(d:Ca (k.size+1) s e o l c x m k=.error er):Ds s e op ln co tx (.cons o l c x m k r)=.error er:=by
 obtain rfl:=beq_iff_eq.1 h;unfold Ds;rw[if_neg (by decide)];simp only;rw[if_neg (by decide),if_pos (by decide),d]
theorem YQ(h:(op==44)=true)(d:Ca (k.size+1) s e o l c x m k=.ok (t,s1))(hw:H5 s1 e tx t (C0 (k.size+1) o k) ln co=.error er):Ds s e op ln co tx (.cons o l c x m k r)=.error er:=by
 obtain rfl:=beq_iff_eq.1 h;unfold Ds;rw[if_neg (by decide)];simp only;rw[if_neg (by decide),if_pos (by decide),d];simp only;rw[hw]
theorem ZM(h:(op==45)=true)(d:HI (Ca (k.size+1)) s e ln co tx o l c x m k=.ok (t,s1))(hw:H5 s1 e tx t true ln co=.ok e1):Ds s e op ln co tx (.cons o l c x m k r)=.ok (some (tx,t),e1,s1):=by
 obtain rfl:=beq_iff_eq.1 h;unfold Ds;rw[if_neg (by decide)];simp only;rw[if_neg (by decide),if_neg (by decide),if_pos (by decide),d];simp only;rw[hw]
theorem Ya(h:(op==45)=true)(d:HI (Ca (k.size+1)) s e ln co tx o l c x m k=.error er):Ds s e op ln co tx (.cons o l c x m k r)=.error er:=by
 obtain rfl:=beq_iff_eq.1 h;unfold Ds;rw[if_neg (by decide)];simp only;rw[if_neg (by decide),if_neg (by decide),if_pos (by decide),d]
theorem YZ(h:(op==45)=true)(d:HI (Ca (k.size+1)) s e ln co tx o l c x m k=.ok (t,s1))(hw:H5 s1 e tx t true ln co=.error er):Ds s e op ln co tx (.cons o l c x m k r)=.error er:=by
 obtain rfl:=beq_iff_eq.1 h;unfold Ds;rw[if_neg (by decide)];simp only;rw[if_neg (by decide),if_neg (by decide),if_pos (by decide),d];simp only;rw[hw]
theorem lJ(h:(op==46)=true)(d:Ca (k.size+1) s e o l c x m k=.ok (t,s1)):Ds s e op ln co tx (.cons o l c x m k r)=.ok (some ([],t),e,s1):=by
 obtain rfl:=beq_iff_eq.1 h;unfold Ds;rw[if_neg (by decide)];simp only;rw[if_neg (by decide),if_neg (by decide),if_neg (by decide),d]
theorem gV(h:(op==46)=true)(d:Ca (k.size+1) s e o l c x m k=.error er):Ds s e op ln co tx (.cons o l c x m k r)=.error er:=by
 obtain rfl:=beq_iff_eq.1 h;unfold Ds;rw[if_neg (by decide)];simp only;rw[if_neg (by decide),if_neg (by decide),if_neg (by decide),d]
theorem Oq(h:CT s.datas [] o l c x k=.ok q):Dr s.datas [] (.cons o l c x m k .nil)=.ok q.one:=by
 rw[Kb,h];simp only[Dr];cases q <;> rfl
theorem Vv(h:(op==43)=true)(d:s.roots.contains tx=true):Ds s e op ln co tx (.cons o l c x m k r)=.error (ln,co,11):=by
 obtain rfl:=beq_iff_eq.1 h;unfold Ds;rw[if_neg (by decide)];simp only;rw[if_pos (by decide),if_pos d]
theorem UN(h:(op==43)=true)(d:s.roots.contains tx=false)(D:CT s.datas [] o l c x k=.error er):Ds s e op ln co tx (.cons o l c x m k r)=.error er:=by
 obtain rfl:=beq_iff_eq.1 h;unfold Ds;rw[if_neg (by decide)];simp only;rw[if_pos (by decide),if_neg (by rw[d];decide),Jw D]
theorem VA(h:(op==43)=true)(d:s.roots.contains tx=false)(D:CT s.datas [] o l c x k=.ok q)(F:Ca (k2.size+1) {s with roots:=tx::s.roots} e o2 l2 c2 x2 m2 k2=.error er):Ds s e op ln co tx (.cons o l c x m k (.cons o2 l2 c2 x2 m2 k2 r2))=.error er:=by
 obtain rfl:=beq_iff_eq.1 h;unfold Ds;rw[if_neg (by decide)];simp only;rw[if_pos (by decide),if_neg (by rw[d];decide),Oq D];simp only;rw[F]
theorem Vi(h:(op==43)=true)(d:s.roots.contains tx=false)(D:CT s.datas [] o l c x k=.ok q)(F:Ca (k2.size+1) {s with roots:=tx::s.roots} e o2 l2 c2 x2 m2 k2=.ok (t,s1))(G:EA s1 q t ln co=.error er):Ds s e op ln co tx (.cons o l c x m k (.cons o2 l2 c2 x2 m2 k2 r2))=.error er:=by
 obtain rfl:=beq_iff_eq.1 h;unfold Ds;rw[if_neg (by decide)];simp only;rw[if_pos (by decide),if_neg (by rw[d];decide),Oq D];simp only;rw[F];simp only;rw[show q.one.hd=q by cases q <;> rfl,G]
theorem Zp(h:(op==43)=true)(d:s.roots.contains tx=false)(D:CT s.datas [] o l c x k=.ok q)(F:Ca (k2.size+1) {s with roots:=tx::s.roots} e o2 l2 c2 x2 m2 k2=.ok (t,s1))(G:EA s1 q t ln co=.ok s2) :
   Ds s e op ln co tx (.cons o l c x m k (.cons o2 l2 c2 x2 m2 k2 r2))=.ok (some (tx,.con BP q.one),⟨tx,.con BP q.one,[]⟩::e,s2):=by
 obtain rfl:=beq_iff_eq.1 h;unfold Ds;rw[if_neg (by decide)];simp only;rw[if_pos (by decide),if_neg (by rw[d];decide),Oq D];simp only;rw[F];simp only;rw[show q.one.hd=q by cases q <;> rfl,G]
end
def K3(w:wO)(f:Fq)(l:List (lU×lU))(a:oA)(c:Nat):Prop:=l.length≤c∧(l=[]∨∃b off,a=some ⟨b,off,none⟩∧Cs w f b off (bC l))
variable {X:Cx}{f:Fq}{Fs:List (wO→Fq→Prop)}{B:List FB}{H:List HB}{a:oA}{T:tI}{w:wO}
theorem K3.mono{l:List (lU×lU)}{c:Nat}:FU (λw f=>K3 w f l a c):=λ_ _ _ _ h d=>⟨h.1,h.2.imp id λ⟨b,off,D,F⟩=>⟨b,off,D,F.mono d⟩⟩
def XZ(nds:Nd)(w:wO)(f:Fq)(v:Value)(w':wO):Prop:=∃f',CK (λ_=>False) w f w' f' ∧
 match C3 nds with
 |.error er=>v=.tuple #[.slice none 0 0,.agg #[.int .i64 er.1,.int .i64 er.2.1],.int .i64 er.2.2]
 |.ok d=>∃a c,v=.tuple #[.slice a d.length c,.agg #[.int .i64 0,.int .i64 0],.int .i64 0]∧K3 w' f' d a c
def RN(l:List (lU×lU))(r:List (lU×T1)):List (lU×lU):=l++Ws r
theorem Ye{s:CS}{n:lU}{t f:T1}{r:List (lU×T1)}{d:List (lU×lU)}(h:Fv s t 0 0=.ok f) :
   (match Ku s ((n,t)::r) with|.error x=>.error x|.ok l=>.ok (d++l):RI (List (lU×lU)))=(match Ku s r with|.error x=>.error x|.ok l=>.ok ((d++[(n,NP f)])++l)):=by
 rw[Ku,h];simp only
 cases Ku s r with
 |error x=>rfl
 |ok z=>simp
theorem VU{s:CS}{r:List (lU×T1)}:Ku s r=(match Ku s r with|.error x=>.error x|.ok l=>.ok ([]++l)):=by
 cases Ku s r <;> rfl
theorem ZT{s:CS}{n:lU}{t:T1}{r:List (lU×T1)}{er:Er}(h:Fv s t 0 0=.error er):Ku s ((n,t)::r)=.error er:=by rw[Ku,h]
theorem YT{d:List (lU×lU)}{n y:lU}{t:T1}{r:List (lU×T1)}:Et (bC (RN d ((n,t)::r))) (d.length*2+1) [S y]=bC (RN (d++[(n,y)]) r):=by
 unfold RN;rw[bC_app,bC_app,bC_app];have h:=aM d;rw[← h];generalize bC d=D;simp[Et,Ws,bC,List.set_append_right]
theorem Th{a:lU}:∀l:List lU,(ER (l.map λk=>(k,Value.bool true)) a).getD (.bool false)=.bool (l.contains a)
 | []=>rfl
 |b::l=>by
   simp only[List.map_cons,ER,List.contains_cons]
   by_cases h:a=b
   · subst h;simp
   · rw[show (a==b)=false from beq_eq_false_iff_ne.2 h]
     simpa using Th l
theorem DI.addRoot{s:CS}(h:DI s){a:lU}(D:s.roots.contains a=false):DI {s with roots:=a::s.roots} :=
 {h with
   dr:=⟨by
     have:∀l:List lU,l.contains a=false→ER (l.map λk=>(k,Value.bool true)) a=none:=by
       intro l
       induction l with
       |nil=>intro _;rfl
       |cons b l F =>
         intro d;rw[List.contains_cons,Bool.or_eq_false_iff] at d;simp only[List.map_cons,ER];rw[d.1];simpa using F d.2
     exact this _ D,h.dr⟩}
theorem Gj{nds:Nd}{er:Er}(h:DQ Wx H0 nds []=.error er):C3 nds=.error er:=by rw[C3,h]
theorem tR{nds:Nd}{out:List (lU×T1)}{s:CS}(h:DQ Wx H0 nds []=.ok (out,s)):C3 nds=Ku s out:=by rw[C3,h]
theorem eG{R:List RB}{c:Nat}{l:List (lU×lU)}(D:AQ X w f H (⟨T,2,a,c,l.length,bC l⟩::R) B Fs):∃f',AQ X w f' H R B Fs∧K3 w f' l a c:=by
 have J:=D.row _ (.head _);rcases J.2 with ⟨_,_,hz⟩|⟨b,q,G,K,F,_,L,O⟩
 · simp only at hz
   exact⟨f,D.less (List.Sublist.refl _) (List.sublist_cons_self _ _) (λ_ h=>h) (λ_ h=>h),oM,.inl (by cases l with|nil=>rfl|cons _ _=>simp at hz)⟩
 · simp only at G
   subst G;obtain⟨f',d⟩:=D.done (i:=0) C C;refine⟨f',d.less (List.Sublist.refl _) (List.Sublist.refl _) (λ_ h=>.tail _ h) (λ_ h=>h),F,.inr ⟨b,0,C,d.fro _ (.head _)⟩⟩
end Go.SP
namespace Go.Proofs.YtelmolopaolbcaaGreatDoor
open Go.SW Go.SP Go.RowKit Go.Proofs.Tryz
theorem eQ:∀i,i≤8→DI (⟨[],0,ZC i,[],[],-1⟩:CS)
 |0,_=>⟨tQ,λ_ _ h=>(by cases h),tQ,tQ,tQ,Int.le_refl _⟩
 |i+1,h=>by
  obtain⟨⟨nm,F,G,J⟩,d⟩:∃v,Io[i]?=some v:=⟨_,List.getElem?_eq_getElem (l:=Io) (by have:Io.length=8:=rfl;omega)⟩;have D:=SE d;rw[OI d];exact (eQ i oM).addCons (OC i oM _ d) ⟨by rw[LF];dsimp only;omega,NH _,Da (TA d),Nat.zero_le _⟩
theorem wfc0:DI Wx:=eQ 8 (Nat.le_refl _)
theorem envB0:Gx H0:=by
 rw[← Ss];intro b d;unfold Hi at d;rw[List.take_length,List.mem_reverse] at d;obtain⟨p,h,rfl⟩:=List.mem_map.1 d;exact⟨Jt (GO (Bw _)) (Ow p h),by dsimp only[QS];decide⟩
theorem XP(w:wO)(f:Fq)(D:Vl w f)(tx:lU)(t:T1)(b:Nat)(F:Ak w f t.one (some ⟨b,0,none⟩) 1) :
  Bq prog 28 #[S tx,.slice (some ⟨b,0,none⟩) 1 1] w (B3 (α:=oA×Nat) (λx=>tV (.con tx t.one) x.1 x.2) (λ_=>True) (λx=>[λw f=>Ak w f t.one x.1 x.2]) w f):=by
 have d:t.one.len=1:=by cases t <;> rfl
 have h:=CN w f D tx t.one (some ⟨b,0,none⟩) 1 (by rw[d];decide) F;rwa[d] at h
variable {σ:Bf}{f f':Fq}{a:oA}{v2 v4 x3 y3:Value}{w w':wO}
theorem MX{nds:Nd}{b2 b3 b4:Nat}(K:b2≠b3∧b2≠b4∧b3≠b4){fn:Func}(L:fn.results=#[.cell 2 49,.cell 3 27,.cell 4 28])(O:σ 2=some (pB b2))(Q:σ 3=some (pB b3))(U:σ 4=some (pB b4)){er:Er}(hm:C3 nds=.error er)(F:CK (λ_=>False) w f w' f')
  (k2:AM w' b2 [v2] 49∧f' b2=0∧(true=true→w.heap.size≤b2)) (k3:AM w' b3 [x3,y3] 27∧f' b3=0∧(true=true→w.heap.size≤b3)) (k4:AM w' b4 [v4] 28∧f' b4=0∧(true=true→w.heap.size≤b4))
  (tmps:Array Value) (D:∀t,t∈[2,3,4]→∀v,σ t=some v→tmps.getD t undef=v):Leaves prog fn tmps (λe w'=>∃v,e=.returned v∧XZ nds w f v w') [{target:=.fn (.func 21) ([pB b2,pB b3,pB b4]:lV).toArray,args:=#[]}] (.panicking (trI 67 er)) w':=by
 refine FP (by simp) dY (UQ w' f' F.val b2 b3 b4 v2 x3 y3 v4 k2.1 k3.1 k4.1 ⟨k2.2.1,k3.2.1,k4.2.1⟩ K er) λwz hz=>?_;rw[KK];obtain⟨f3,Y,z2,z3,z4⟩:=hz;refine BT (σ:=AF (E2 2 (pB b2) 3 (pB b3)) 4 (pB b4)) (λt v d=>?_) (DP L (Br C cR z2 C) (Ac C Fa z3 C) (Br C Ik z4 C)) ⟨_,C,f3,CK.trans0 F Y (λb Z=>?_),by rw[hm]⟩
 ·
  by_cases e4:t=4
  · subst e4;exact D 4 (by simp) v (U.trans d)
  by_cases G:t=3
  · subst G;exact D 3 (by simp) v (Q.trans d)
  by_cases J:t=2
  · subst J;exact D 2 (by simp) v (O.trans d)
  have n4:Nat.beq t 4=false:=by cases h:Nat.beq t 4 with|false=>rfl|true=>exact absurd (Nat.eq_of_beq_eq_true h) e4
  have n3:Nat.beq t 3=false:=by cases h:Nat.beq t 3 with|false=>rfl|true=>exact absurd (Nat.eq_of_beq_eq_true h) G
  have n2:Nat.beq t 2=false:=by cases h:Nat.beq t 2 with|false=>rfl|true=>exact absurd (Nat.eq_of_beq_eq_true h) J
  simp[AF,Go.SW.e0,n2,n3,n4] at d
 ·
  rcases Z with rfl|rfl|rfl
  · exact k2.2.2 C
  · exact k3.2.2 C
  · exact k4.2.2 C
theorem idone{nds:Nd}{b2 b3 b4:Nat}{fn:Func}(G:fn.results=#[.cell 2 49,.cell 3 27,.cell 4 28])(J:σ 2=some (pB b2))(K:σ 3=some (pB b3))(L:σ 4=some (pB b4)){d:List (lU×lU)}(hm:C3 nds=.ok d)(D:CK (λ_=>False) w f w' f'){c:Nat}(O:K3 w' f' d a c)
  (k2:AM w' b2 [.slice a d.length c] 49) (k3:AM w' b3 [iV 0,iV 0] 27) (k4:AM w' b4 [iV 0] 28)
  (tmps:Array Value) (Q:∀t v,σ t=some v→tmps.getD t undef=v):Leaves prog fn tmps (λe w'=>∃v,e=.returned v∧XZ nds w f v w') [{target:=.fn (.func 21) ([pB b2,pB b3,pB b4]:lV).toArray,args:=#[]}] .returning w':=by
 refine FP (by simp) dY (Tj w' b2 b3 b4) λY hz=>?_;have F:=CK.of_ext hz D.val;refine BT Q (DP G (Br J cR (k2.ext hz) C) (Ac K Fa (k3.ext hz) C) (Br L Ik (k4.ext hz) C)) ⟨_,C,f',CK.trans0 D F (λb U=>U.elim),?_⟩;rw[hm];exact⟨a,c,C,K3.mono _ _ _ _ O (F.fle D.val (λ_ h=>h.elim))⟩
set_option maxHeartbeats 2000000 in
theorem Wc(w:wO)(f:Fq)(hv:Vl w f)(hG:FI w f)(nds:Nd)(na:oA)(nc:Nat)(hwt:nds.wft)(hsz:nds.size≤200000)(htb:nds.txb)(hN:AH w f nds na nc) :
  Bq prog 12 #[.slice na nds.len nc] w (XZ nds w f):=by
 have hkl0:=Nd.len_le nds;refine uY (K:=[2,3,4]) (X:=X0 w f) (H:=[]) (R:=[]) (B:=[]) (Fs:=[λw f=>AH w f nds na nc,λw f=>FI w f]) (f:=f) func12 C C C (Ci hv ⟨hN,hG,tQ⟩ ⟨AH.mono,FI.mono,tQ⟩)<|Aa 8 [] (λb1=>λb2=>λb3=>λ_=>Jf (p:=b1≠b2∧b1≠b3∧b2≠b3) (λw f D=>by have L:=D.nd;simp[CO] at L;exact⟨λe=>L.2 e.symm,λe=>L.1.2 e.symm,λe=>L.1.1 e.symm⟩) λhn=>Aa 1 [] (λ_=>Dn C C (λw f D=>VP C)<|mdf C C<|Aa 4 [] (λ_=>Wf (XX:=λ_ _=>False) C C (eC sI C C) (λw f D=>(Wy w f D.vl D.f1).retP) (λ_=>As.stab) (λ_=>⟨AJ.mono,tQ⟩) (λ_ _ _ _ _ h=>h.elim) ?_)));rintro⟨A,ea⟩ hA;dsimp only at hA ⊢;refine Aa 21 [] (λ_=>PA 91 2<|PA 76 4 ?_);refine FG (α:=Nat×Nd×List (lU×T1)×lV×oA×Nat×oA×Nat×Ba×oA×CS) (λx=>x.2.1.len) (λx=>x.1+x.2.1.len=nds.len∧DQ Wx H0 nds []=DQ x.2.2.2.2.2.2.2.2.2.2 x.2.2.2.2.2.2.2.2.1 x.2.1 x.2.2.1∧x.2.2.1.length≤x.1∧(Ga x.2.2.1).bnd∧Gx x.2.2.2.2.2.2.2.2.1∧x.2.1.wft∧x.2.1.txb∧DI x.2.2.2.2.2.2.2.2.2.2∧x.2.1.size≤nds.size∧x.2.2.2.2.2.2.2.2.2.2.fresh+200002*x.2.1.size≤200002*nds.size∧x.2.1.size-(nds.size:Int)-1≤x.2.2.2.2.2.2.2.2.2.2.vars∧x.2.2.2.2.2.2.2.2.2.2.vars≤0) (λx=>(E9 2 (pB b1) 3 (pB b2) 4 (pB b3) 5 (pB A.cb) 6 (.pointer x.2.2.2.2.2.2.2.2.2.1) 7 (.slice x.2.2.2.2.1 x.2.2.1.length x.2.2.2.2.2.1) 19 (.slice na nds.len nc) 20 (iV (nds.len:Int)) 21 (iV (x.1:Int)))) (λx=>⟨λ_=>False,Bz A,As 84 163 A x.2.2.2.2.2.2.2.2.2.2,w,f⟩) (λx=>[⟨b3,[iV 0],28,true⟩,⟨b2,[iV 0,iV 0],27,true⟩,⟨b1,[.slice x.2.2.2.2.2.2.1 x.2.2.1.length x.2.2.2.2.2.2.2.1],49,true⟩]) (λx=>[⟨76,4,x.2.2.2.2.1,x.2.2.2.2.2.1,x.2.2.1.length,x.2.2.2.1⟩,⟨91,2,x.2.2.2.2.2.2.1,x.2.2.2.2.2.2.2.1,x.2.2.1.length,bC (Ws x.2.2.1)⟩]) (λx=>[]) (λx=>[λw f=>AV w f na x.1 x.2.1,λw f=>Bi w f (Ga x.2.2.1) x.2.2.2.1,λw f=>AJ w f x.2.2.2.2.2.2.2.2.1 x.2.2.2.2.2.2.2.2.2.1,λw f=>FI w f]) (0,nds,[],[],none,0,none,0,H0,ea,Wx) ⟨Nat.zero_add _,C,Nat.le_refl _,tQ,envB0,hwt,htb,wfc0,Nat.le_refl _,by dsimp only[Wx];omega,by dsimp only[Wx];omega,(by decide:(-1:Int)≤0)⟩ lE (λw f D=>D.more (B':=[]) (F':=[λw f=>AV w f na 0 nds,λw f=>Bi w f .nil []]) nE (AI.mem ⟨AH.at D.f1,C,tQ⟩) (Aw.mem ⟨AV.mono,Bi.mono,tQ⟩) |>.less sR sR nE (mR [0,1,2,4])) ?_;rintro⟨i,r,out,txs,ta,tc,oa,oc,e,ea,s⟩ ⟨hi,U,hol,htyb,heB,Y,htx,hw,hrs,hfr,hv1,hv2⟩;dsimp only at hi U hol htyb heB Y htx hw hrs hfr hv1 hv2 ⊢;refine Aa 6 [] (λ_=>AN 22 C C (λh1=>?_) (λh1=>?_));refine Aa 6 [] (λ_=>?_);have hil:i<nds.len:=by have:=dT h1;omega
 obtain⟨op2,ln2,co2,F,nm2,k2,r,rfl⟩:=Nd.cases1 r oM;have hi2:i+(r.len+1)=nds.len:=hi;obtain⟨htx2,hkx2,hrx2⟩:=htx;have hrs2:k2.size+r.size+1≤nds.size:=hrs;have hfr2:s.fresh+200002*((k2.size+r.size+1:Nat):Int)≤200002*nds.size:=hfr;have hv3:((k2.size+r.size+1:Nat):Int)-nds.size-1≤s.vars:=hv1;have hkl:=Nd.len_le k2;have hfr0:=hw.fr;refine IA 0 C ?_;rintro⟨eb,eo,ka,kc⟩ rfl;refine Aa 26 [100,0,0,1] (aI oM<|y2<|λb4=>y<|λb5=>y<|λ_=>AN 27 C C (λh2=>?_) (λh2=>?_));refine Aa 5 [1] (y<|λ_=>Z6 C C (eC vU C C) (λ_ h=>h) (λw f D=>Yp w f D.vl A hA s D.res D.mz hw D.f5 op2 ln2 co2 nm2 F k2 ka kc oM htx2 hkx2 D.f0 oM hv2) (λ_=>As.stab) (λ_=>trivial) (λer w2 f2 he hE J=>MX hn C C C C (Gj (U.trans (DJ (Vw h2 he)))) hE (J _ gR) (J _ WN) (J _ WU)) ?_);rintro s5 ⟨hda,hw5,hfr5,hvv5,hvw5⟩;dsimp only at hda hw5 hfr5 hvv5 hvw5 ⊢;exact Aa 11 [] (aI ⟨oM,oM⟩<|λ_=>Df ((i+1,r,out,txs,ta,tc,oa,oc,e,ea,s5)) (show r.len<r.len+1 from Nat.lt_succ_self _) ⟨show i+1+r.len=_ by omega,U.trans (VT (Zg h2 hda)),show out.length≤i+1 by omega,htyb,heB,Y.2,hrx2,hw5,show r.size≤_ by omega,show s5.fresh+200002*(r.size:Int)≤_ by omega,show (r.size:Int)-nds.size-1≤s5.vars by omega,show s5.vars≤0 by omega⟩ lE (λw f D=>⟨_,D.less (sD (sD (sK (sK (sK sZ))))) sR nE (mR [1,3,4,5])⟩));refine Aa 7 [] (λ_=>AN 32 C C (λh3=>?_) (λh3=>?_));refine Aa 2 [] (λ_=>?_);have hwk:k2.wfm 2:=by rcases Y.1 with L|⟨L,h8⟩|⟨L,h8⟩ <;> first|exact h8|(exfalso;have:=beq_iff_eq.1 h3;omega)
 obtain⟨op3,ln3,co3,tx3,nm3,k3,r3,G⟩:=C7 hwk dC;have hwk2:r3.wfm 3:=by have L:=hwk;rw[G] at L;exact L
 obtain⟨op4,ln4,co4,tx4,nm4,k4,r4,rfl⟩:=C7 hwk2 dC;rw[Yh] at hwk2;have hks2:(Nd.cons op4 ln4 co4 tx4 nm4 k4 r4).size=k4.size+r4.size+1:=rfl;have hkl3:(Nd.cons op4 ln4 co4 tx4 nm4 k4 r4).len=r4.len+1:=rfl;have hkx3:tx3.length≤100000∧k3.txb:=by have L:=hkx2;rw[G] at L;exact⟨L.1,L.2.1⟩
 have hks:k2.size=k3.size+(Nd.cons op4 ln4 co4 tx4 nm4 k4 r4).size+1:=by rw[G];rfl
 have hkl2:k2.len=(Nd.cons op4 ln4 co4 tx4 nm4 k4 r4).len+1:=by rw[G];rfl
 refine dJ 0 C G<|IA 0 C ?_;rintro⟨eb3,eo3,ka3,kc3⟩ rfl;refine IA 1 C ?_;rintro⟨eb4,eo4,ka4,kc4⟩ h44;obtain⟨rfl,rfl⟩:eb3=eb4∧eo3=eo4:=by cases h44;exact⟨C,C⟩
 refine Zl [2,3,4] (λw=>AM w A.cb [pB A.sb,.map (some A.km),.map (some A.dm),.map (some A.rm),iV s.vars] 84∧BM BQ w A.rm (s.roots.map λk=>(k,.bool true))) (λw f h _=>⟨h.blk,h.roots⟩) [0,1,2,3,4] Al (rd [0,1,2,3,4,5,6,7,8,9] (.br 10 .fin .fin)) C kR kR kR C EU<|A2 3 [] (λ_=>GI C C C (λw hK=>Ai C qT hK.2.2.1 C)<|A2 2 [1] (y<|λ_=>GI C C C (λw hK=>M8 (K:=BQ) (a:=F) C C Xf Gt jW hK.2.2.2 hw.dr (Th s.roots))<|A2 3 [1] (y<|λ_=>Ag C ?_ Aj)));refine Z6 (α:=Unit) (val:=λ_=>.tuple #[]) (q:=λ_=>(!s.roots.contains F)=true) (I':=λ_=>As 84 163 A s) (F':=λ_=>[]) (pe:=λer=>(!s.roots.contains F)=false∧er=(ln2,co2,11)) (M:=λ_=>False) (T:=67) C C (eC EI C C) (λ_ h=>h.elim) (λw f D=>(Cp w f D.vl (!s.roots.contains F) ln2 co2).mono (λ_ _ ⟨x,f2,h1,h2,h3,h4⟩=>⟨x,f2,h1,h2,h3.mono (λ_ h=>h.elim),(D.call0 h3).res,h4⟩) λ_ _ h=>h) (λ_=>As.stab) (λ_=>trivial) (λer w2 f2 he hE J=>MX hn C C C C (Gj (U.trans (DJ (by obtain⟨L,rfl⟩:=he;rw[G];exact Vv h3 (FO L))))) hE (J _ gR) (J _ WN) (J _ WU)) ?_;rintro⟨⟩ hnd;replace hnd:s.roots.contains F=false:=FE hnd;refine Aa 1 [] (λ_=>AY [0,1,2,3,4] (λw f h _=>⟨h.blk,h.roots⟩) C (λ_ h=>h)<|Bm<|Aa 2 [] (λ_=>Zl [2,3,4] (λw=>AM w A.cb [pB A.sb,.map (some A.km),.map (some A.dm),.map (some A.rm),iV s.vars] 84) (λw f h _=>h.blk) [0,1,2,3,4] Al (rd [0,1,2,3,4,5] (.br 6 .fin .fin)) C kR kR kR C EU<|A2 3 [] (λ_=>GI C C C (λw hK=>Ai C qT hK.2.2 C)<|A2 2 [1] (y<|λ_=>Ag C ?_ Aj))));refine cRoot (a:=F) hA hw C C C C Xf Gt hnd ?_;have hwr:=hw.addRoot hnd;refine Aa 1 [] (λ_=>AY [0,1,2,3,4] (λw f h _=>h.blk) C (λ_ h=>h)<|Bm<|Aa 8 [1,101,0] (y<|aI oM<|y2<|λ_=>Z6 (α:=T1×oA×Nat) (val:=λx=>tV x.1 x.2.1 x.2.2) (q:=λx=>CT s.datas [] op3 ln3 co3 tx3 k3=.ok x.1∧x.1.bnd) (I':=λ_=>As 84 163 A ({s with roots:=F::s.roots}:CS)) (F':=λx=>[λw f=>Ak w f x.1.kids x.2.1 x.2.2]) (pe:=λer=>CT s.datas [] op3 ln3 co3 tx3 k3=.error er) (M:=λ_=>False) (T:=67) C C (eC OD C C) (λ_ h=>h.elim) (λw f D=>(Lb (k3.size+1) w f D.vl A ({s with roots:=F::s.roots}:CS) D.res hwr D.f10 op3 ln3 co3 nm3 tx3 k3 ka3 kc3 (.map none) [] (Nat.lt_succ_self _) oM hkx3.1 hkx3.2 (.inl ⟨C,C⟩) D.f2).mono (λ_ _ ⟨x,f2,h1,h2,h3,h4⟩=>⟨x,f2,h1,h2,h3.mono (λ_ h=>h.elim),(D.call0 h3).res,h4⟩) λ_ _ h=>h) (λ_=>As.stab) (λ_=>⟨Ak.mono,tQ⟩) (λer w2 f2 he hE J=>MX hn C C C C (Gj (U.trans (DJ (by rw[G];exact UN h3 hnd he)))) hE (J _ gR) (J _ WN) (J _ WU)) ?_));rintro⟨q5,qa,qc⟩ ⟨hp5,hqb⟩;dsimp only at hp5 hqb ⊢;refine Aa 5 [0] (λb6=>y<|λ_=>Zl [2,3,4] (λ_=>True) Fl [0,1,2,3,4,5] Al (rd [0,1,2,3,4,5,6,7,9,10] (.br 8 (.br 11 .fin .fin) .fin)) C kR kR kR C EU<|A2 10 [0,2,100,0,2] (y<|y<|aI oM<|y2<|y<|λ_=>Ag C ?_ Aj))
 refine Z6 C C (eC CL C C) (λ_ h=>h) (λw f D=>Jv (k4.size+1) w f D.vl A hA ({s with roots:=F::s.roots}:CS) D.res D.mz hwr op4 ln4 co4 nm4 tx4 k4 ka4 kc4 e ea (Nat.lt_succ_self _) oM hwk2 D.f1 heB D.f10 (by first|omega|(dsimp only;omega))) (λ_=>As.stab) (λ_=>⟨Ak.mono,tQ⟩) (λer w2 f2 he hE J=>MX hn C C C C (Gj (U.trans (DJ (by rw[G];exact VA h3 hnd hp5 he)))) hE (J _ om5) (J _ gR) (J _ WN)) ?_;rintro⟨⟨t6,Z,t6c⟩,s6⟩ ⟨Q,O,hw6,hf6⟩;dsimp only at Q O hw6 hf6 ⊢;have hfm6:=GS EG _ Q;have hvv6:s6.vars=s.vars:=hfm6.2.2.2;refine Aa 1 [] (λ_=>Au [0,1,2,3,4,5] C<|Ag C ?_ Aj);refine Z6 C C (eC G9 C C) (λ_ h=>h) (λw f D=>Dd w f D.vl A hA s6 D.res D.mz hw6 q5 t6 qa qc Z t6c hqb O D.f1 D.f0 ln2 co2) (λ_=>As.stab) (λ_=>trivial) (λer w2 f2 he hE J=>MX hn C C C C (Gj (U.trans (DJ (by rw[G];exact Vi h3 hnd hp5 Q he)))) hE (J _ om5) (J _ gR) (J _ WN)) ?_;rintro s7 ⟨hh7,hw7,hf7⟩;have hvv7:s7.vars=s.vars:=(EG.has hh7).2.2.2.trans hvv6;refine Aa 1 [] (λ_=>Au [0,1,2,3,4,5] C<|Bm<|Aa 5 [0] (y<|λb7=>λ_=>Dc 0 C C<|Bt (α:=oA×Nat) C C (eC Bu C C) (λw f D=>XP w f D.vl BP q5 b7 (Dg (l:=[(q5,qa,qc)]) ⟨D.f1,tQ⟩ D.b0)) (λ_=>⟨Ak.mono,tQ⟩) ?_));rintro⟨ua,uc⟩ -;refine Aa 11 [1,2,1,2] (y<|y<|y<|y<|λ_=>?_);have hub:(T1.con BP q5.one).bnd:=Dt dC (by rw[T1.one,T1.len_cons];simp only[Ty.len];omega) (GO hqb);refine Z6 C C (eC IL C C) (λ_ h=>h) (λw f D=>Ef w f D.vl A hA s7 D.res D.mz hw7 e ea heB D.f12 F (T1.con BP q5.one) ua uc hub D.f0 false ln2 co2) (λ_=>As.stab) (λ_=>⟨AJ.mono,tQ⟩) (λer w2 f2 he hE J=>MX hn C C C C (by cases he) hE (J _ om5) (J _ gR) (J _ WN)) ?_;rintro⟨e7,ea7⟩ ⟨he7,heB7⟩;dsimp only at he7 heB7 ⊢;have hee:e7=⟨F,.con BP q5.one,[]⟩::e:=by cases he7;rfl
 subst hee;refine Aa 11 [5,2] (y<|y<|λb8=>λ_=>Dq 1 0 C C WQ C C C C C C C C (λ_ _=>C) oM oM λoa2 oc2=>Aa 7 [6,2] (y<|y<|λb9=>λ_=>Dq 0 0 C C Dl C C C C C C C C (λ_ _=>C) oM oM λta2 tc2=>Aa 8 [] (aI ⟨oM,oM⟩<|λ_=>?_)));exact Df ((i+1,r,(out++[(F,(T1.con BP q5.one))]),txs++tC (T1.con BP q5.one) ua uc,ta2,tc2,oa2,oc2,(⟨F,.con BP q5.one,[]⟩::e),ea7,s7)) (show r.len<r.len+1 from Nat.lt_succ_self _) ⟨show i+1+r.len=_ by omega,U.trans (IZ (by rw[G];exact Zp h3 hnd hp5 Q hh7)),show (out++[(F,(T1.con BP q5.one))]).length≤i+1 by rw[List.length_append];simp;omega,show (Ga (out++[(F,(T1.con BP q5.one))])).bnd by rw[Ej];exact Ty.bnd_snoc htyb hub,heB7,Y.2,hrx2,hw7,show r.size≤_ by omega,show s7.fresh+200002*(r.size:Int)≤_ by omega,show (r.size:Int)-nds.size-1≤s7.vars by omega,show s7.vars≤0 by omega⟩ (oY C C C C C (Eq.trans (b:=some (Value.slice ta2 (out.length+1) tc2)) C (by dsimp only;rw[List.length_append];rfl)) C C C) (λw f D=>⟨_,by have hM9:=(D.more (B':=[]) (F':=[λw f=>Bi w f (Ga (out++[(F,(T1.con BP q5.one))])) (txs++tC (T1.con BP q5.one) ua uc)]) nE (AI.mem ⟨by rw[Ej];exact Bi.snoc D.f1 D.f12,tQ⟩) (Aw.mem ⟨Bi.mono,tQ⟩)).less (sD (sD (sD (sD (sD (sK (sK (sK sZ)))))))) sR (B':=[]) nE (F':=[λw f=>AV w f (some ⟨eb,eo,none⟩) (i+1) r,λw f=>Bi w f (Ga (out++[(F,(T1.con BP q5.one))])) (txs++tC (T1.con BP q5.one) ua uc),λw f=>AJ w f (⟨F,.con BP q5.one,[]⟩::e) ea7,λw f=>FI w f]) (mR [11,0,1,15]);dsimp only;rw[show (out++[(F,(T1.con BP q5.one))]).length=out.length+1 by rw[List.length_append];rfl,show bC (Ws (out++[(F,(T1.con BP q5.one))]))=bC (Ws out)++[S F,S []] by rw[Ws,List.map_append,SP.bC_app];rfl];exact hM9⟩);refine Aa 7 [] (λ_=>AN 80 C C (λh4=>?_) (λh4=>?_));refine Aa 2 [] (λ_=>?_);have hwk:k2.wfm 3:=by rcases Y.1 with L|⟨L,h8⟩|⟨L,h8⟩ <;> first|exact h8|(exfalso;have:=beq_iff_eq.1 h4;omega)
 obtain⟨op3,ln3,co3,tx3,nm3,k3,r3,G⟩:=C7 hwk dC;have hwk1:Hf op3 k3:=by have L:=hwk;rw[G] at L;exact L
 have hks:k2.size=k3.size+r3.size+1:=by rw[G];rfl
 have hkl2:k2.len=r3.len+1:=by rw[G];rfl
 refine dJ 0 C G<|IA 0 C ?_;rintro⟨eb3,eo3,ka3,kc3⟩ rfl;refine Aa 7 [1,100,0] (y<|aI oM<|y2<|λ_=>Z6 C C (eC CL C C) (λ_ h=>h) (λw f D=>Jv (k3.size+1) w f D.vl A hA s D.res D.mz hw op3 ln3 co3 nm3 tx3 k3 ka3 kc3 e ea (Nat.lt_succ_self _) oM hwk1 D.f0 heB D.f7 (by first|omega|(dsimp only;omega))) (λ_=>As.stab) (λ_=>⟨Ak.mono,tQ⟩) (λer w2 f2 he hE J=>MX hn C C C C (Gj (U.trans (DJ (by rw[G];exact Za h4 he)))) hE (J _ gR) (J _ WN) (J _ WU)) ?_);rintro⟨⟨t6,Z,t6c⟩,s6⟩ ⟨Q,O,hw6,hf6⟩;dsimp only at Q O hw6 hf6 ⊢;have hfm6:=GS EG _ Q;have hvv6:s6.vars=s.vars:=hfm6.2.2.2;refine Aa 3 [0] (y<|λ_=>Zl [2,3,4] (λ_=>True) Fl [0,1,2,3,4] Al (rd [0,1,2,3,4,5,6,7,8,10,11] (.br 9 (.br 12 (.rd 13 .fin) .fin) .fin)) C kR kR kR C EU<|A2 11 [1,0,1,100,0,1] (y<|y<|y<|aI oM<|y2<|y<|λ_=>Ag C ?_ Aj));refine Bt C C (eC UZ C C) (λw f D=>K9 (k3.size+1) w f D.vl op3 ln3 co3 nm3 tx3 k3 ka3 kc3 (Nat.lt_succ_self _) oM D.f1) (λx=>trivial) ?_;rintro⟨⟩ -;refine Aa 1 [] (λ_=>Au [0,1,2,3,4] C<|Ag C ?_ Aj);refine Z6 C C (eC IL C C) (λ_ h=>h) (λw f D=>Ef w f D.vl A hA s6 D.res D.mz hw6 e ea heB D.f8 F t6 Z t6c O D.f0 (C0 (k3.size+1) op3 k3) ln2 co2) (λ_=>As.stab) (λ_=>⟨AJ.mono,tQ⟩) (λer w2 f2 he hE J=>MX hn C C C C (Gj (U.trans (DJ (by rw[G];exact YQ h4 Q he)))) hE (J _ gR) (J _ WN) (J _ WU)) ?_;rintro⟨e7,ea7⟩ ⟨he7,heB7⟩;dsimp only at he7 heB7 ⊢;refine Aa 1 [] (λ_=>Au [0,1,2,3,4] C<|A2 1 [] (λ_=>Bm<|Aa 9 [4,1] (y<|y<|λb10=>λ_=>Dq 1 0 C C WQ C C C C C C C C (λ_ _=>C) oM oM λoa2 oc2=>Aa 7 [5,1] (y<|y<|λb11=>λ_=>Dq 0 0 C C Dl C C C C C C C C (λ_ _=>C) oM oM λta2 tc2=>Aa 8 [] (aI ⟨oM,oM⟩<|λ_=>?_)))))
 exact Df ((i+1,r,(out++[(F,t6)]),txs++tC t6 Z t6c,ta2,tc2,oa2,oc2,e7,ea7,s6)) (show r.len<r.len+1 from Nat.lt_succ_self _) ⟨show i+1+r.len=_ by omega,U.trans (IZ (by rw[G];exact eY h4 Q he7)),show (out++[(F,t6)]).length≤i+1 by rw[List.length_append];simp;omega,show (Ga (out++[(F,t6)])).bnd by rw[Ej];exact Ty.bnd_snoc htyb O,heB7,Y.2,hrx2,hw6,show r.size≤_ by omega,show s6.fresh+200002*(r.size:Int)≤_ by omega,show (r.size:Int)-nds.size-1≤s6.vars by omega,show s6.vars≤0 by omega⟩ (oY C C C C C (Eq.trans (b:=some (Value.slice ta2 (out.length+1) tc2)) C (by dsimp only;rw[List.length_append];rfl)) C C C) (λw f D=>⟨_,by have hM9:=(D.more (B':=[]) (F':=[λw f=>Bi w f (Ga (out++[(F,t6)])) (txs++tC t6 Z t6c)]) nE (AI.mem ⟨by rw[Ej];exact Bi.snoc D.f1 D.f8,tQ⟩) (Aw.mem ⟨Bi.mono,tQ⟩)).less (sD (sD (sD (sD (sK (sK (sK sZ))))))) sR (B':=[]) nE (F':=[λw f=>AV w f (some ⟨eb,eo,none⟩) (i+1) r,λw f=>Bi w f (Ga (out++[(F,t6)])) (txs++tC t6 Z t6c),λw f=>AJ w f e7 ea7,λw f=>FI w f]) (mR [7,0,1,11]);dsimp only;rw[show (out++[(F,t6)]).length=out.length+1 by rw[List.length_append];rfl,show bC (Ws (out++[(F,t6)]))=bC (Ws out)++[S F,S []] by rw[Ws,List.map_append,SP.bC_app];rfl];exact hM9⟩);refine Aa 7 [] (λ_=>AN 102 C C (λh5=>?_) (λh5=>?_));refine Aa 2 [] (λ_=>?_);have hwk:k2.wfm 3:=by rcases Y.1 with L|⟨L,h8⟩|⟨L,h8⟩ <;> first|exact h8|(exfalso;have:=beq_iff_eq.1 h5;omega)
 obtain⟨op3,ln3,co3,tx3,nm3,k3,r3,rfl⟩:=C7 hwk dC;rw[Yh] at hwk;have hks:(Nd.cons op3 ln3 co3 tx3 nm3 k3 r3).size=k3.size+r3.size+1:=rfl;refine Aa 4 [1] (y<|λ_=>Z6 C C (eC aT C C) (λ_ h=>h) (λw f D=>T8 (k3.size+1) (Jv (k3.size+1)) w f D.vl A hA s D.res D.mz hw op2 ln2 co2 nm2 F op3 ln3 co3 nm3 tx3 k3 r3 ka kc e ea (Nat.lt_succ_self _) oM hwk D.f0 heB D.f4 oM) (λ_=>As.stab) (λ_=>⟨Ak.mono,tQ⟩) (λer w2 f2 he hE J=>MX hn C C C C (Gj (U.trans (DJ (Ya h5 he)))) hE (J _ gR) (J _ WN) (J _ WU)) ?_);rintro⟨⟨t6,Z,t6c⟩,s6⟩ ⟨Q,O,hw6,hf6⟩;dsimp only at Q O hw6 hf6 ⊢;have hfm6:=QV EG (GS EG _) Q;have hvv6:s6.vars=s.vars:=hfm6.2.2.2;refine Aa 11 [0,1,0,1] (y<|y<|y<|y<|λ_=>Z6 C C (eC IL C C) (λ_ h=>h) (λw f D=>Ef w f D.vl A hA s6 D.res D.mz hw6 e ea heB D.f5 F t6 Z t6c O D.f0 true ln2 co2) (λ_=>As.stab) (λ_=>⟨AJ.mono,tQ⟩) (λer w2 f2 he hE J=>MX hn C C C C (Gj (U.trans (DJ (YZ h5 Q he)))) hE (J _ gR) (J _ WN) (J _ WU)) ?_);rintro⟨e7,ea7⟩ ⟨he7,heB7⟩;dsimp only at he7 heB7 ⊢;exact Aa 11 [4,1] (y<|y<|λb12=>λ_=>Dq 1 0 C C WQ C C C C C C C C (λ_ _=>C) oM oM λoa2 oc2=>Aa 7 [5,1] (y<|y<|λb13=>λ_=>Dq 0 0 C C Dl C C C C C C C C (λ_ _=>C) oM oM λta2 tc2=>Aa 8 [] (aI ⟨oM,oM⟩<|λ_=>Df ((i+1,r,(out++[(F,t6)]),txs++tC t6 Z t6c,ta2,tc2,oa2,oc2,e7,ea7,s6)) (show r.len<r.len+1 from Nat.lt_succ_self _) ⟨show i+1+r.len=_ by omega,U.trans (IZ (ZM h5 Q he7)),show (out++[(F,t6)]).length≤i+1 by rw[List.length_append];simp;omega,show (Ga (out++[(F,t6)])).bnd by rw[Ej];exact Ty.bnd_snoc htyb O,heB7,Y.2,hrx2,hw6,show r.size≤_ by omega,show s6.fresh+200002*(r.size:Int)≤_ by omega,show (r.size:Int)-nds.size-1≤s6.vars by omega,show s6.vars≤0 by omega⟩ (oY C C C C C (Eq.trans (b:=some (Value.slice ta2 (out.length+1) tc2)) C (by dsimp only;rw[List.length_append];rfl)) C C C) (λw f D=>⟨_,by have hM9:=(D.more (B':=[]) (F':=[λw f=>Bi w f (Ga (out++[(F,t6)])) (txs++tC t6 Z t6c)]) nE (AI.mem ⟨by rw[Ej];exact Bi.snoc D.f1 D.f5,tQ⟩) (Aw.mem ⟨Bi.mono,tQ⟩)).less (sD (sD (sD (sD (sK (sK (sK sZ))))))) sR (B':=[]) nE (F':=[λw f=>AV w f (some ⟨eb,eo,none⟩) (i+1) r,λw f=>Bi w f (Ga (out++[(F,t6)])) (txs++tC t6 Z t6c),λw f=>AJ w f e7 ea7,λw f=>FI w f]) (mR [4,0,1,8]);dsimp only;rw[show (out++[(F,t6)]).length=out.length+1 by rw[List.length_append];rfl,show bC (Ws (out++[(F,t6)]))=bC (Ws out)++[S F,S []] by rw[Ws,List.map_append,SP.bC_app];rfl];exact hM9⟩))));refine Aa 7 [] (λ_=>AN 116 C C (λh6=>?_) (λh6=>?_));refine Aa 2 [] (λ_=>?_);have hwk:k2.wfm 3:=by rcases Y.1 with L|⟨L,h8⟩|⟨L,h8⟩ <;> first|exact h8|(exfalso;have:=beq_iff_eq.1 h6;omega)
 obtain⟨op3,ln3,co3,tx3,nm3,k3,r3,G⟩:=C7 hwk dC;have hwk1:Hf op3 k3:=by have L:=hwk;rw[G] at L;exact L
 have hks:k2.size=k3.size+r3.size+1:=by rw[G];rfl
 have hkl2:k2.len=r3.len+1:=by rw[G];rfl
 refine dJ 0 C G<|IA 0 C ?_;rintro⟨eb3,eo3,ka3,kc3⟩ rfl;refine Aa 7 [1,100,0] (y<|aI oM<|y2<|λ_=>Z6 C C (eC CL C C) (λ_ h=>h) (λw f D=>Jv (k3.size+1) w f D.vl A hA s D.res D.mz hw op3 ln3 co3 nm3 tx3 k3 ka3 kc3 e ea (Nat.lt_succ_self _) oM hwk1 D.f0 heB D.f7 (by first|omega|(dsimp only;omega))) (λ_=>As.stab) (λ_=>⟨Ak.mono,tQ⟩) (λer w2 f2 he hE J=>MX hn C C C C (Gj (U.trans (DJ (by rw[G];exact gV h6 he)))) hE (J _ gR) (J _ WN) (J _ WU)) ?_);rintro⟨⟨t6,Z,t6c⟩,s6⟩ ⟨Q,O,hw6,hf6⟩;dsimp only at Q O hw6 hf6 ⊢;have hfm6:=GS EG _ Q;have hvv6:s6.vars=s.vars:=hfm6.2.2.2;refine Aa 16 [0,1,4,1] (y<|y<|y<|y<|λb14=>λ_=>Dq 1 0 C C WQ C C C C C C C C (λ_ _=>C) oM oM λoa2 oc2=>Aa 7 [5,1] (y<|y<|λb15=>λ_=>Dq 0 0 C C Dl C C C C C C C C (λ_ _=>C) oM oM λta2 tc2=>Aa 8 [] (aI ⟨oM,oM⟩<|λ_=>?_)));exact Df ((i+1,r,(out++[(([]:lU),t6)]),txs++tC t6 Z t6c,ta2,tc2,oa2,oc2,e,ea,s6)) (show r.len<r.len+1 from Nat.lt_succ_self _) ⟨show i+1+r.len=_ by omega,U.trans (IZ (by rw[G];exact lJ h6 Q)),show (out++[(([]:lU),t6)]).length≤i+1 by rw[List.length_append];simp;omega,show (Ga (out++[(([]:lU),t6)])).bnd by rw[Ej];exact Ty.bnd_snoc htyb O,heB,Y.2,hrx2,hw6,show r.size≤_ by omega,show s6.fresh+200002*(r.size:Int)≤_ by omega,show (r.size:Int)-nds.size-1≤s6.vars by omega,show s6.vars≤0 by omega⟩ (oY C C C C C (Eq.trans (b:=some (Value.slice ta2 (out.length+1) tc2)) C (by dsimp only;rw[List.length_append];rfl)) C C C) (λw f D=>⟨_,by have hM9:=(D.more (B':=[]) (F':=[λw f=>Bi w f (Ga (out++[(([]:lU),t6)])) (txs++tC t6 Z t6c)]) nE (AI.mem ⟨by rw[Ej];exact Bi.snoc D.f0 D.f7,tQ⟩) (Aw.mem ⟨Bi.mono,tQ⟩)).less (sD (sD (sD (sD (sK (sK (sK sZ))))))) sR (B':=[]) nE (F':=[λw f=>AV w f (some ⟨eb,eo,none⟩) (i+1) r,λw f=>Bi w f (Ga (out++[(([]:lU),t6)])) (txs++tC t6 Z t6c),λw f=>AJ w f e ea,λw f=>FI w f]) (mR [6,0,9,10]);dsimp only;rw[show (out++[(([]:lU),t6)]).length=out.length+1 by rw[List.length_append];rfl,show bC (Ws (out++[(([]:lU),t6)]))=bC (Ws out)++[S ([]:lU),S []] by rw[Ws,List.map_append,SP.bC_app];rfl];exact hM9⟩);exfalso;have gh2:=beq_eq_false_iff_ne.1 h2;have gh3:=beq_eq_false_iff_ne.1 h3;have gh4:=beq_eq_false_iff_ne.1 h4;have gh5:=beq_eq_false_iff_ne.1 h5;have gh6:=beq_eq_false_iff_ne.1 h6;rcases Y.1 with L|⟨L,h8⟩|⟨L,h8⟩ <;> omega
 refine Aa 3 [] (λ_=>Fh<|Aa 4 [] (λ_=>?_));obtain rfl:r=.nil:=Nd.len0 (by have:=dF h1;omega);have hti2:DQ Wx H0 nds []=.ok (out,s):=U;have hol2:out.length≤200000:=oM;refine P0 (λw f=>Ak w f (Ga out) ta tc) Ak.mono (λw f D=>HT D D.f1)<|Aa 7 [] (λ_=>?_);refine FG (α:=List (lU×lU)×List (lU×T1)) (λx=>x.2.length) (λx=>x.1.length+x.2.length=out.length∧(C3 nds=match Ku s x.2 with|.error e=>.error e|.ok l=>.ok (x.1++l))∧(Ga x.2).bnd) (λx=>(E7 2 (pB b1) 3 (pB b2) 4 (pB b3) 5 (pB A.cb) 137 (.slice ta out.length tc) 138 (iV (out.length:Int)) 139 (iV (x.1.length:Int)))) (λx=>⟨λ_=>False,Bz A,As 84 163 A s,w,f⟩) (λx=>[⟨b3,[iV 0],28,true⟩,⟨b2,[iV 0,iV 0],27,true⟩,⟨b1,[.slice oa out.length oc],49,true⟩]) (λx=>[⟨91,2,oa,oc,out.length,bC (RN x.1 x.2)⟩]) (λx=>[]) (λx=>[λw f=>BN w f ta x.1.length (Ga x.2)]) ([],out) ⟨by simp,(tR hti2).trans VU,htyb⟩ lE (λw f D=>D.more (B':=[]) (F':=[λw f=>BN w f ta 0 (Ga out)]) nE (AI.mem ⟨Ak.at D.f0,tQ⟩) (Aw.mem ⟨BN.mono,tQ⟩) |>.less (sK (sK (sK sZ))) sR nE (mR [0])) ?_;rintro⟨d,r⟩ ⟨hdl,hfi,htyr⟩;dsimp only at hdl hfi htyr ⊢;refine Aa 6 [] (λ_=>AN 140 C C (λh7=>?_) (λh7=>?_));refine Aa 6 [] (λ_=>?_);have hjl:d.length<out.length:=by have:=dT h7;omega
 obtain⟨⟨nm2,t2⟩,r2,rfl⟩:∃p q,r=p::q:=by cases r with|nil=>simp only[List.length_nil] at hdl;omega|cons p q=>exact⟨p,q,C⟩
 have htb2:t2.bnd∧(Ga r2).bnd:=T1.bnd_cons.1 htyr;refine Jf (p:=∃ob,oa=some ⟨ob,0,none⟩) (λw f D=>by rcases (D.row _ (.head _)).2 with ⟨_,_,L⟩|⟨ob,_,L,_⟩;(dsimp only at L;omega);exact⟨ob,L⟩) λhob=>?_;obtain⟨ob,rfl⟩:=hob;refine KU (α:=Nat×Nat×oA×Nat) (λx=>ta=some ⟨x.1,x.2.1,none⟩) (λx=>[⟨x.1,x.2.1+d.length*4,tC t2 x.2.2.1 x.2.2.2⟩]) (λx=>[λw f=>Ak w f t2.kids x.2.2.1 x.2.2.2,λw f=>BN w f ta (d.length+1) (Ga r2)]) (λw f D=>let ⟨b,off,ka,kc,h1,h2,h3,h4⟩:=BN.head (show BN w f ta d.length (t2.cons (Ga r2)) from D.f0);⟨(b,off,ka,kc),h1,(oE h2),AI.mem ⟨h3,h4,tQ⟩⟩) (λx=>Aw.mem ⟨Ak.mono,BN.mono,tQ⟩) ?_;rintro⟨ab2,ao2,ka2,kc2⟩ rfl;refine Aa 9 [100,0,0] (aI oM<|y2<|λb16=>y<|λ_=>Zl [2,3,4] (λ_=>True) Fl [0,1,2,3] Al (rd [0,1,2,3,4] (.br 5 (.br 6 (.rd 7 (.rd 8 (.br 9 .fin .fin))) .fin) .fin)) C kR kR kR C EU<|A2 5 [3,0] (y<|y<|λ_=>Ag C ?_ Aj));refine Z6 C C (eC FN C C) (λ_ h=>h) (λw f D=>Cr w f D.vl A hA s D.res D.mz hw t2 ka2 kc2 htb2.1 D.f0 0 0) (λ_=>As.stab) (λ_=>⟨Ak.mono,tQ⟩) (λer w2 f2 he hE J=>MX hn C C C C (by rw[hfi,ZT he]) hE (J _ WN) (J _ WU) (J _ tG)) ?_;rintro⟨u2,ua2,uc2⟩ ⟨hfu,hub2,hus2⟩;dsimp only at hfu hub2 hus2 ⊢;refine Aa 1 [] (λ_=>Au [0,1,2,3] C<|Ag C ?_ Aj);refine Bt C C (eC vI C C) (λw f D=>XW w f D.vl u2 ua2 uc2 hus2 hub2 D.f0) (λx=>trivial) ?_;rintro⟨⟩ -;refine Aa 1 [] (λ_=>Au [0,1,2,3] C<|A2 2 [] (aI oM<|λ_=>Ag C ?_ Aj));exact mrs 0 (bC (RN (d++[(nm2,NP u2)]) r2)) C C C C wT C C C (by simp only[Nat.zero_add,List.length_cons,List.length_nil,Int.toNat_natCast];omega) (by rw[Nat.zero_add,Int.toNat_natCast];exact YT) C<|Aa 1 [] (λ_=>Au [0,1,2,3] C<|Bm<|Aa 6 [] (aI ⟨oM,oM⟩<|λ_=>Df ((d++[(nm2,NP u2)],r2)) (show r2.length<((nm2,t2)::r2).length from Nat.lt_succ_self _) ⟨show (d++[(nm2,NP u2)]).length+r2.length=_ by simp only[List.length_append,List.length_cons,List.length_nil] at hdl ⊢;omega,hfi.trans (Ye hfu),htb2.2⟩ (zU C C C C C C (Eq.trans (b:=some (Value.int .i64 ((d.length:Int)+1))) C (by dsimp only;simp))) (λw f D=>⟨_,by have hM9:=D.less (sD (sK (sK (sK sZ)))) sR (B':=[]) nE (F':=[λw f=>BN w f (some ⟨ab2,ao2,none⟩) (d.length+1) (Ga r2)]) (mR [2]);dsimp only;rw[List.length_append];exact hM9⟩)));refine Aa 3 [] (λ_=>Fh<|Aa 3 [] (λ_=>?_));obtain rfl:r=[]:=by have L:=dF h7;cases r with|nil=>rfl|cons p q=>simp only[List.length_cons] at hdl;omega
 refine Aa 9 [2,2,1,0] (y<|y<|y<|y<|λ_=>λw9 f9 D=>?_);obtain⟨f8,hM8,hB8⟩:=eG (l:=RN d []) (by have hM9:=D;rw[show out.length=(RN d []).length by rw[RN,List.length_append];simp only[List.map_nil,List.length_nil];exact hdl.symm] at hM9;exact hM9);have hinf:C3 nds=.ok d:=by rw[hfi];show (Except.ok (d++[]):RI _)=_;rw[List.append_nil]
 have hdd:RN d []=d:=List.append_nil d;rw[hdd] at hB8;exact λtmps ht=>idone C C C C hinf hM8.exm hB8 (by have L:=hM8.blk _ WU;rw[hdd] at L;exact L) (hM8.blk _ tG) (hM8.blk _ om0) tmps ht
end Go.Proofs.YtelmolopaolbcaaGreatDoor
namespace Go.SP
open Go.SW Go.RowKit
def Fo.sz:Fo→Nat
 |.nil=>0
 |.cons _ k r=>k.sz+r.sz+1
structure NW(k:Fo)(a:N):Prop where
 tx:a.tx.length≤100000
 kt:a.kids.txb
 sz:a.kids.size+2≤2*(k.sz+1)
def EW(f:AB→Fo→R N):Prop:=∀t k a,t.ok→k.ok→f t k=.ok a→NW k a
theorem J0{f:AB→Fo→R N}(F:EW f):∀(d:Fo)(x:Nd),d.ok→A9 f d=.ok x→x.txb∧x.size+x.len≤2*d.sz∧x.len=d.len
 |.nil,x,_,h=>by cases h;exact⟨tQ,Nat.le_refl _,C⟩
 |.cons t k r,x,hk,h=>by
   unfold A9 at h
   split at h
   · cases h
   rename_i a G
   split at h
   · cases h
   rename_i b J
   cases h
   have D:=F t k a hk.1 hk.2.1 G;obtain⟨K,O,L⟩:=J0 F r b hk.2.2.2 J;refine⟨⟨D.tx,D.kt,K⟩,?_,by simp only[N.cons,Nd.len,Fo.len,L]⟩;have:=D.sz;simp only[N.cons,Nd.size,Nd.len,Fo.sz];omega
variable {h:AB}{hk:Fo}{co ln nm:Int}{n:Nat}{ks:Nd}
theorem qH{t:AB}{k:Fo}{op:Int}{tx:lU}(h:tx.length≤100000):NW k ⟨op,ln,co,tx,nm,.nil⟩:=⟨h,tQ,by simp only[Nd.size];omega⟩
theorem zW{f:AB→Fo→R N}(d:EW f){l:Fo}(D:(Fo.cons h hk l).ok){op:Int}{tx:lU}(F:tx.length≤100000)(he:A9 f l=.ok ks):NW (.cons h hk l) ⟨op,ln,co,tx,nm,ks⟩:=by
 obtain⟨G,J,_⟩:=J0 d l ks D.2.2.2 he;refine⟨F,G,?_⟩;simp only[Fo.sz];omega
theorem nwA{f:AB→Fo→R N}(d:EW f){l:Fo}(D:l.ok){op:Int}{tx:lU}(F:tx.length≤100000)(he:A9 f l=.ok ks):NW l ⟨op,ln,co,tx,nm,ks⟩:=by
 obtain⟨G,J,_⟩:=J0 d l ks D he;refine⟨F,G,?_⟩;simp only;omega
theorem X3:EW H3:=λt k a d _ h=>by
 unfold H3 at h
 cases h
 split
 · exact qH (t:=t) (Nat.zero_le _)
 · exact qH (t:=t) d.2
theorem dA:∀n,EW (D9 n)
 |0=>λ_ _ _ _ _ h=>by cases h
 |n+1=>λt k a d hk h=>by
   have D:=dA n;unfold D9 at h;simp only[need] at h
   repeat' (split at h)
   all_goals first
     |(cases h;done)
     |exact X3 t _ a d hk h
     |(cases h;first|exact qH (t:=t) (Nat.zero_le _)|exact qH (t:=t) d.2|exact zW D hk (Nat.zero_le _) (by assumption)|exact zW D hk hk.1.2 (by assumption))
theorem Tl{t:AB}:∀(x:Nd)(o:N),x.txb→CP t x=some o→o.tx.length≤100000∧o.kids.txb∧o.kids.size+2≤x.size+x.len
 |.nil,_,_,h=>by cases h
 |.cons op ln co tx nm kids .nil,o,D,h=>by
   unfold CP at h
   cases h
   exact⟨D.1,D.2.1,by simp only[Nd.size,Nd.len];omega⟩
 |.cons op ln co tx nm kids (.cons a b c d e f r),o,D,h=>by
   unfold CP at h;simp only at h
   cases F:CP t (.cons a b c d e f r) with
   |none=>rw[F] at h;cases h
   |some q =>
     rw[F] at h
     cases h
     obtain⟨G,J,K⟩:=Tl (.cons a b c d e f r) q D.2.2 F;refine⟨by simp[Ay],⟨D.1,D.2.1,G,J,tQ⟩,?_⟩;simp only[Ay,N.one,N.cons,Nd.size,Nd.len] at K ⊢;omega
theorem JT{α:Type}{t:AB}{b:Bool}{x:R α}{a:α}(h:need t b x=.ok a):b=true∧x=.ok a:=by
 unfold need at h
 split at h
 · rename_i d;exact⟨d,h⟩
 · cases h
theorem Vq:∀n,EW (BV n)
 |0=>λ_ _ _ _ _ h=>by cases h
 |n+1=>λt k a D hk h=>by
   have F:=Vq n;unfold BV at h
   by_cases d:(t.k==0)=true
   · rw[if_pos d] at h
     split at h
     · cases h
     rename_i hd G l;simp only at h
     by_cases hw:hd.isWord [45,62]=true
     · rw[if_pos hw] at h
       obtain⟨_,h⟩:=JT h
       split at h
       · cases h
       rename_i ks he;obtain⟨J,Q,U⟩:=J0 F l ks hk.2.2.2 he
       split at h
       · rename_i o K
         cases h
         obtain⟨L,O,Y⟩:=Tl ks _ J K;exact⟨L,O,by simp only[Fo.sz];omega⟩
       · cases h
     · rw[if_neg hw] at h
       obtain⟨_,h⟩:=JT h
       split at h
       · cases h
       rename_i ks he
       cases h
       exact zW F hk hk.1.2 he
   · rw[if_neg d] at h
     split at h
     · cases h;exact qH (t:=t) D.2
     · obtain⟨_,h⟩:=JT h
       cases h;exact qH (t:=t) D.2
theorem tM{ex:AB→Fo→R N}(hex:EW ex):EW (Gp n ex):=λt k a F hk h=>by
 unfold Gp at h
 split at h
 · rename_i p G b bk
   obtain⟨_,h⟩:=JT h
   split at h
   · cases h
   rename_i q d;obtain⟨_,h⟩:=JT h
   split at h
   · cases h
   rename_i x D
   cases h
   have d:=dA n _ _ _ hk.1 hk.2.1 d;have D:=hex _ _ _ hk.2.2.2.1 hk.2.2.2.2.1 D;refine⟨by simp[Ay],⟨d.tx,d.kt,D.tx,D.kt,tQ⟩,?_⟩;have:=d.sz;have:=D.sz;simp only[Ay,N.one,N.cons,Nd.size,Fo.sz];omega
 · cases h
theorem Rf:∀{x y:Nd},x.txb→y.txb→(x.app y).txb
 |.nil,_,_,h=>h
 |.cons _ _ _ _ _ _ _,_,h,d=>⟨h.1,h.2.1,Rf h.2.2 d⟩
theorem LL:∀(x y:Nd),(x.app y).size=x.size+y.size
 |.nil,_=>by simp[Nd.app,Nd.size]
 |.cons _ _ _ _ _ _ r,y=>by simp only[Nd.app,Nd.size,LL r y];omega
theorem nw2{x y:N}{k1 k2 k:Fo}(d:NW k1 x)(D:NW k2 y)(G:k1.sz+k2.sz+2≤k.sz){op:Int}{tx:lU}(F:tx.length≤100000):NW k ⟨op,ln,co,tx,nm,x.cons y.one⟩:=by
 refine⟨F,⟨d.tx,d.kt,D.tx,D.kt,tQ⟩,?_⟩;have:=d.sz;have:=D.sz;simp only[N.one,N.cons,Nd.size];omega
theorem nw1{x:N}{k1 k:Fo}(d:NW k1 x)(F:k1.sz+1≤k.sz){op:Int}{tx:lU}(D:tx.length≤100000):NW k ⟨op,ln,co,tx,nm,x.one⟩:=by
 refine⟨D,⟨d.tx,d.kt,tQ⟩,?_⟩;have:=d.sz;simp only[N.one,N.cons,Nd.size];omega
theorem nO{ex:AB→Fo→R N}(hex:EW ex){t:AB}{w:lU}{l:Fo}{a:N}(d:l.ok)(h:Bh n ex t w l=.ok a):NW l a:=by
 unfold Bh at h;simp only[need] at h
 split at h
 · split at h
   · split at h
     · split at h
       · cases h
       rename_i O D
       split at h
       · cases h
       rename_i x F
       cases h
       obtain⟨J,K,_⟩:=J0 X3 _ _ d.2.1 D;have G:=hex _ _ _ d.2.2.2.1 d.2.2.2.2.1 F;refine⟨by simp[Ay],Rf J ⟨G.tx,G.kt,tQ⟩,?_⟩;have:=G.sz;simp only[Ay,LL,N.one,N.cons,Nd.size,Fo.sz];omega
     · cases h
   · cases h
 split at h
 · split at h
   · split at h
     · split at h
       · cases h
       rename_i x D
       split at h
       · cases h
       rename_i y F
       cases h
       exact nw2 (hex _ _ _ d.2.2.2.1 d.2.2.2.2.1 D) (hex _ _ _ d.2.2.2.2.2.2.1 d.2.2.2.2.2.2.2.1 F) (by simp only[Fo.sz];omega) d.1.2
     · cases h
   · cases h
 split at h
 · split at h
   · split at h
     · split at h
       · cases h
       rename_i x D
       split at h
       · cases h
       rename_i y F
       cases h
       exact nw2 (hex _ _ _ d.2.2.2.1 d.2.2.2.2.1 D) (hex _ _ _ d.2.2.2.2.2.2.1 d.2.2.2.2.2.2.2.1 F) (by simp only[Fo.sz];omega) d.1.2
     · cases h
   · cases h
 iterate 3
   split at h
   · split at h
     · split at h
       · cases h
       rename_i ks D
       cases h
       exact nwA hex d (Nat.zero_le _) D
     · cases h
 split at h
 · split at h
   · split at h
     · cases h
     · split at h
       · cases h
       rename_i x D
       split at h
       · cases h
       rename_i L F
       cases h
       have G:=hex _ _ _ d.1 d.2.1 D;obtain⟨J,K,_⟩:=J0 (tM hex) _ _ d.2.2.2 F;refine⟨by simp[Ay],⟨G.tx,G.kt,J⟩,?_⟩;have:=G.sz;simp only[Ay,N.cons,Nd.size,Fo.sz];omega
   · cases h
 split at h
 · split at h
   · split at h
     · cases h
     rename_i x D
     cases h
     exact nw1 (hex _ _ _ d.1 d.2.1 D) (by simp only[Fo.sz];omega) (Nat.zero_le _)
   · cases h
 · cases h
theorem yV{l:Fo}{a:N}(d:NW l a):NW (.cons h hk l) a:=⟨d.tx,d.kt,by have:=d.sz;simp only[Fo.sz];omega⟩
theorem O5:∀n,EW (BG n)
 |0=>λ_ _ _ _ _ h=>by cases h
 |n+1=>λt k a D hk h=>by
   have d:=O5 n;unfold BG at h;simp only[need] at h
   repeat' (split at h)
   all_goals first
     |(cases h;done)
     |exact yV (nO d hk.2.2.2 h)
     |(cases h;first|exact qH (t:=t) (Nat.zero_le _)|exact qH (t:=t) D.2|exact zW d hk hk.1.2 (by assumption)|exact nwA d hk (Nat.zero_le _) (by assumption))
theorem nB(n:Nat):EW (Eo n):=λt k a d hk h=>by
 unfold Eo at h;simp only[need] at h
 repeat' (split at h)
 all_goals first
   |(cases h;done)
   |(cases h;exact zW (Vq n) hk hk.1.2 (by assumption))
theorem Um:∀(k:Fo)(x:Nd),k.ok→Bk k=some x→x.txb∧x.size≤k.sz
 |.nil,x,_,h=>by cases h;exact⟨tQ,Nat.le_refl _⟩
 |.cons v _ r,x,hk,h=>by
   unfold Bk at h
   split at h
   · cases d:Bk r with
     |none=>rw[d] at h;cases h
     |some y =>
       rw[d] at h
       cases h
       have:=Um r y hk.2.2.2 d;exact⟨⟨hk.1.2,tQ,this.1⟩,by simp only[Ay,N.cons,Nd.size,Fo.sz];omega⟩
   · cases h
theorem xC(n:Nat):EW (Co n):=λt k a O hk h=>by
 unfold Co at h;simp only[need] at h
 split at h
 · cases h
 rename_i hd F l;have d:=hk.2.2.2
 split at h
 · split at h
   · split at h
     · split at h
       · split at h
         · cases h
         rename_i vs G
         split at h
         · cases h
         rename_i cs D
         cases h
         obtain⟨J,Q⟩:=Um _ _ d.2.2.2.2.1 G;obtain⟨K,e4,_⟩:=J0 (nB n) _ _ d.2.2.2.2.2.2 D;refine⟨d.1.2,Rf J K,?_⟩;simp only[Ay,LL,Fo.sz] at e4 ⊢;omega
       · cases h
     · cases h
   split at h
   · split at h
     · split at h
       · split at h
         · cases h
         rename_i x D
         split at h
         · cases h
         rename_i y L
         cases h
         exact nw2 (Vq n _ _ _ d.2.2.2.1 d.2.2.2.2.1 D) (O5 n _ _ _ d.2.2.2.2.2.2.1 d.2.2.2.2.2.2.2.1 L) (by simp only[Fo.sz];omega) d.1.2
       · cases h
     · cases h
   split at h
   · split at h
     · split at h
       · split at h
         · cases h
         rename_i x D
         cases h
         exact nw1 (O5 n _ _ _ d.2.2.2.1 d.2.2.2.2.1 D) (by simp only[Fo.sz];omega) d.1.2
       · cases h
     · cases h
   split at h
   · split at h
     · split at h
       · split at h
         · cases h
         rename_i x D
         cases h
         exact nw1 (O5 n _ _ _ d.2.2.2.1 d.2.2.2.2.1 D) (by simp only[Fo.sz];omega) d.1.2
       · cases h
     · cases h
   split at h
   · split at h
     · split at h
       · cases h
       rename_i x D
       cases h
       exact nw1 (O5 n _ _ _ d.1 d.2.1 D) (by simp only[Fo.sz];omega) (Nat.zero_le _)
     · cases h
   · cases h
 · cases h
def EX(f:AB→Fo→R N):Prop:=∀t k a,f t k=.ok a→Hf a.op a.kids
theorem M6{f:AB→Fo→R N}(d:EX f):∀(D:Fo)(x:Nd),A9 f D=.ok x→x.wfm 0
 |.nil,x,h=>by cases h;exact .inl C
 |.cons t k r,x,h=>by
   unfold A9 at h
   split at h
   · cases h
   rename_i a F
   split at h
   · cases h
   rename_i b G
   cases h
   exact⟨d t k a F,M6 d r b G⟩
theorem Jr{f:AB→Fo→R N}:∀(d:Fo)(x:Nd),A9 f d=.ok x→x.len=d.len
 |.nil,x,h=>by cases h;rfl
 |.cons t k r,x,h=>by
   unfold A9 at h
   split at h
   · cases h
   split at h
   · cases h
   rename_i b D
   cases h
   simp only[N.cons,Nd.len,Fo.len,Jr r b D]
def PX(f:AB→Fo→R N):Prop:=∀t k a,f t k=.ok a→(21≤a.op∧a.op≤27)∧a.kids.wfm 9
theorem gY{f:AB→Fo→R N}(d:PX f):∀(D:Fo)(x:Nd),A9 f D=.ok x→x.wfm 9
 |.nil,x,h=>by cases h;exact .inr (.inr C)
 |.cons t k r,x,h=>by
   unfold A9 at h
   split at h
   · cases h
   rename_i a F
   split at h
   · cases h
   rename_i b G
   cases h
   exact⟨d t k a F,gY d r b G⟩
theorem eA:∀n,PX (D9 n)
 |0=>λt k a h=>by cases h
 |n+1=>λt k a h=>by
   unfold D9 at h;simp only[need,H3] at h
   repeat' (split at h)
   all_goals first
     |(cases h;done)
     |(cases h;exact⟨⟨by simp[Ay],by simp[Ay]⟩,.inr (.inr C)⟩)
     |(rename_i d;cases h;exact⟨⟨by simp[Ay],by simp[Ay]⟩,gY (eA n) _ _ d⟩)
theorem eB{ex:AB→Fo→R N}(hex:EX ex):∀(D:Fo)(x:Nd),A9 (Gp n ex) D=.ok x→x.wfm 1
 |.nil,x,h=>by cases h;exact .inr (.inl C)
 |.cons t k r,x,h=>by
   unfold A9 at h
   split at h
   · cases h
   rename_i a d
   split at h
   · cases h
   rename_i b F
   cases h
   refine⟨?_,eB hex r b F⟩;unfold Gp at d;simp only[need] at d
   repeat' (split at d)
   all_goals first
     |(cases d;done)
     |(rename_i G _ _ _ J;cases d;exact⟨eA n _ _ _ G,hex _ _ _ J⟩)
theorem yL:∀(d:Nd){x:N},Hf x.op x.kids→(d.app x.one).wfm 4
 |.nil,x,h=>.inl ⟨C,h⟩
 |.cons op ln co tx nm k r,x,h=>by
   refine .inr ⟨?_,yL r h⟩
   cases r <;> simp[Nd.app,N.one,N.cons]
theorem oC:∀{x:Nd},x.wfm 0→x.len=3→x.wfm 7
 |.cons _ _ _ _ _ _ (.cons _ _ _ _ _ _ (.cons _ _ _ _ _ _ .nil)),h,_=>⟨h.1,h.2.1,h.2.2.1⟩
 |.nil,_,h=>by cases h
 |.cons _ _ _ _ _ _ .nil,_,h=>by cases h
 |.cons _ _ _ _ _ _ (.cons _ _ _ _ _ _ .nil),_,h=>by cases h
 |.cons _ _ _ _ _ _ (.cons _ _ _ _ _ _ (.cons _ _ _ _ _ _ (.cons _ _ _ _ _ _ _))),_,h=>by simp[Nd.len] at h
theorem lZ{ex:AB→Fo→R N}(hex:EX ex){t:AB}{w:lU}{l:Fo}{a:N}(h:Bh n ex t w l=.ok a):Hf a.op a.kids:=by
 unfold Bh at h;simp only[need] at h
 split at h
 · repeat' (split at h)
   all_goals first
     |(cases h;done)
     |(rename_i F;cases h;exact .inr (.inr (.inl ⟨C,yL _ (hex _ _ _ F)⟩)))
 split at h
 · repeat' (split at h)
   all_goals first
     |(cases h;done)
     |(rename_i d _ _ F;cases h;exact .inr (.inr (.inr (.inr (.inl ⟨.inl C,hex _ _ _ d,hex _ _ _ F⟩)))))
 split at h
 · repeat' (split at h)
   all_goals first
     |(cases h;done)
     |(rename_i d _ _ F;cases h;exact .inr (.inr (.inr (.inr (.inl ⟨.inr C,hex _ _ _ d,hex _ _ _ F⟩)))))
 split at h
 · split at h
   · rename_i D
     split at h
     · cases h
     rename_i ks d
     cases h
     have e:=Jr _ _ d;have D:=beq_iff_eq.1 D;exact .inr (.inr (.inr (.inr (.inr (.inl ⟨C,oC (M6 hex _ _ d) (show ks.len=3 by omega)⟩)))))
   · cases h
 split at h
 · split at h
   · rename_i D
     split at h
     · cases h
     rename_i ks d
     cases h
     have e:=Jr _ _ d;have D:=dT D;exact .inr (.inr (.inr (.inl ⟨.inr C,by show 0<ks.len;omega,M6 hex _ _ d⟩)))
   · cases h
 split at h
 · split at h
   · split at h
     · cases h
     rename_i ks d
     cases h
     exact .inr (.inr (.inr (.inr (.inr (.inr (.inl ⟨C,M6 hex _ _ d⟩))))))
   · cases h
 split at h
 · split at h
   · rename_i D
     split at h
     · cases h
     · split at h
       · cases h
       rename_i x d
       split at h
       · cases h
       rename_i G F
       cases h
       have e:=Jr _ _ F;have D:=dT D;simp only[Fo.len] at D;refine .inr (.inr (.inr (.inr (.inr (.inr (.inr (.inl ⟨?_,hex _ _ _ d,by show 0<G.len;omega,eB hex _ _ F⟩)))))));simp only[Ay]
       split
       · exact .inr C
       · exact .inl C
   · cases h
 split at h
 · split at h
   · split at h
     · cases h
     rename_i x d
     cases h
     refine .inr (.inr (.inr (.inr (.inr (.inr (.inr (.inr ⟨?_,hex _ _ _ d⟩)))))));simp only[Ay]
     split
     · exact .inr C
     · exact .inl C
   · cases h
 · cases h
theorem On:∀n,EX (BG n)
 |0=>λ_ _ _ h=>by cases h
 |n+1=>λt k a h=>by
   have D:=On n;unfold BG at h;simp only[need] at h
   iterate 4
     split at h
     · cases h;first|exact .inr (.inl ⟨rfl,.inl rfl⟩)|exact .inl (by simp[Ay])
   split at h
   · split at h
     · cases h;exact .inl (by simp[Ay])
     · cases h
   split at h
   · cases h;exact .inl (by simp[Ay])
   split at h
   · split at h
     · split at h
       · cases h
       rename_i ks d
       cases h
       exact .inr (.inl ⟨C,M6 D _ _ d⟩)
     · cases h
   split at h
   · exact lZ D h
   · split at h
     · split at h
       · cases h
       rename_i ks d
       cases h
       have e:=Jr _ _ d;exact .inr (.inr (.inr (.inl ⟨.inl C,by show 0<ks.len;rw[e];exact Nat.succ_pos _,M6 D _ _ d⟩)))
     · cases h
theorem sW{t:AB}{k:Fo}{a:N}(h:Co n t k=.ok a):a.op=41∨(a.op=43∧a.kids.wfm 2)∨((a.op=44∨a.op=45∨a.op=46)∧a.kids.wfm 3):=by
 unfold Co at h;simp only[need] at h
 split at h
 · cases h
 split at h
 · split at h
   · repeat' (split at h)
     all_goals first
       |(cases h;done)
       |(cases h;exact .inl C)
   split at h
   · repeat' (split at h)
     all_goals first
       |(cases h;done)
       |(rename_i d;cases h;exact .inr (.inl ⟨C,On n _ _ _ d⟩))
   split at h
   · repeat' (split at h)
     all_goals first
       |(cases h;done)
       |(rename_i d;cases h;exact .inr (.inr ⟨.inl C,On n _ _ _ d⟩))
   split at h
   · repeat' (split at h)
     all_goals first
       |(cases h;done)
       |(rename_i d;cases h;exact .inr (.inr ⟨.inr (.inl C),On n _ _ _ d⟩))
   split at h
   · repeat' (split at h)
     all_goals first
       |(cases h;done)
       |(rename_i d;cases h;exact .inr (.inr ⟨.inr (.inr C),On n _ _ _ d⟩))
   · cases h
 · cases h
theorem bV:∀(d:Fo)(x:Nd),A9 (Co n) d=.ok x→x.wft
 |.nil,x,h=>by cases h;trivial
 |.cons t k r,x,h=>by
   unfold A9 at h
   split at h
   · cases h
   rename_i a D
   split at h
   · cases h
   rename_i b F
   cases h
   exact⟨sW D,bV r b F⟩
theorem QP:∀(a:Fo)(t:AB)(k:Fo),(a.snoc t k).sz=a.sz+k.sz+1
 |.nil,_,_=>by simp[Fo.snoc,Fo.sz]
 |.cons _ _ r,t,k=>by simp only[Fo.snoc,Fo.sz,QP r t k];omega
def Y8:List (AB×Fo)→Nat
 | []=>0
 |(_,p)::s=>p.sz+1+Y8 s
theorem L4:∀(l:List AB)(st:List (AB×Fo))(cur d:Fo),AA l st cur=.ok d→d.sz≤Y8 st+cur.sz+l.length
 | [],[],cur,d,h=>by simp only[AA] at h;cases h;simp[Y8]
 | [],(o,p)::s,cur,d,h=>by unfold AA at h;split at h <;> cases h
 |k::l,st,cur,d,h=>by
   unfold AA at h
   split at h
   · split at h
     · cases h
     · have:=L4 l _ _ _ h
       simp only[Y8,Fo.sz,List.length_cons] at this ⊢;omega
   · split at h
     · cases st with
       |nil=>cases h
       |cons op s =>
         have:=L4 l _ _ _ h;simp only[Y8,QP,List.length_cons] at this ⊢;omega
     · have:=L4 l _ _ _ h
       simp only[QP,Fo.sz,List.length_cons] at this ⊢;omega
structure WfN(nds:Nd):Prop where
 wft:nds.wft
 txb:nds.txb
 size:nds.size≤200000
theorem lF(n:Nat)(src:lU):WfN (HS n (Jj src)).1:=by
 unfold HS
 cases G:Jj src with
 |error e=>exact⟨tQ,tQ,Nat.zero_le _⟩
 |ok d =>
   obtain⟨Q,J⟩:=XJ G;simp only
   cases F:AA d [] .nil with
   |error e=>exact⟨tQ,tQ,Nat.zero_le _⟩
   |ok D =>
     simp only
     cases he:A9 (Co n) D with
     |error e=>exact⟨tQ,tQ,Nat.zero_le _⟩
     |ok nds =>
       have K:=(Hz d 0 [] .nil D J oM (by simp) tQ tQ (by simp[Fo.len]) (by rfl) F).1;have L:=L4 d [] .nil D F;obtain⟨O,U,_⟩:=J0 (xC n) D nds K he;simp only[Y8,Fo.sz] at L;exact⟨bV D nds he,O,by show nds.size≤_;omega⟩
theorem fT{a b:Int}:((a,b,11):Er).2.2≠0:=(by decide:(11:Int)≠0)
theorem e4{a b:Int}:((a,b,4):Er).2.2≠0:=(by decide:(4:Int)≠0)
theorem lT{b:BZ}{n:Int}{t:T1}{x:Int}(h:Cv b n t=.error x):x≠0:=by
 unfold Cv at h
 repeat' split at h
 all_goals (cases h;try decide)
theorem Qv{f:BZ→Ty→Ty→Except Int BZ}(d:∀ {b x y e},f b x y=.error e→e≠0){b:BZ}{x y:T1}{r q:Ty}{e:Int}(h:Ja f b x y r q=.error e):e≠0:=by
 unfold Ja at h
 repeat' split at h
 all_goals first
   |exact d h
   |(cases h;first|decide|exact lT (by assumption))
theorem LW:∀(k:Nat){b:BZ}{x y:Ty}{e:Int},Mb k b x y=.error e→e≠0
 |k,b,.nil,y,e,h=>by cases k <;> cases h
 |0,b,.var _ _,y,e,h=>by cases h;decide
 |0,b,.con _ _ _,y,e,h=>by cases h;decide
 |k+1,b,.var n r,y,e,h=>Qv (LW k) h
 |k+1,b,.con tx ka r,y,e,h=>Qv (LW k) h
section
variable{s:CS}{e:Ba}{ln co:Int}{tx:lU}{t u:T1}{x:Er}
theorem Ic(h:EA s t u ln co=.error x):x.2.2≠0:=by
 unfold EA at h
 split at h
 · rename_i d;cases h;exact LW _ d
 · cases h
theorem Lw(h:Fv s t ln co=.error x):x.2.2≠0:=by
 unfold Fv at h
 split at h
 · cases h;first|exact fT|exact e4
 · cases h
theorem Rg{v:Bool}(h:H5 s e tx t v ln co=.error x):x.2.2≠0:=by
 unfold H5 at h
 repeat' split at h
 · rename_i d;cases h;exact Lw d
 · cases h
 · cases h
theorem W9{k:Nat}(h:Gq s tx k ln co=.error x):x.2.2≠0:=by
 unfold Gq at h
 repeat' split at h
 all_goals (cases h;try exact fT)
theorem lG(h:HL s e tx ln co=.error x):x.2.2≠0:=by
 unfold HL at h
 repeat' split at h
 · cases h;first|exact fT|exact e4
 · rename_i d;cases h;exact Lw d
 · cases h
end
def EcF(p:MT):Prop:=∀{s e op ln co tx nm k x},p s e op ln co tx nm k=.error x→x.2.2≠0
def EcP(p:OO):Prop:=∀{s e op ln co tx nm k x},p s e op ln co tx nm k=.error x→x.2.2≠0
section
variable{p:MT}(hp:EcF p)
include hp
theorem RM{e:Ba}:∀(k:Nd){s:CS}{x:Er},Ez p e s k=.error x→x.2.2≠0
 |.nil,_,_,h=>by cases h
 |.cons op ln co tx nm k r,s,x,h=>by
   unfold Ez at h
   split at h
   · rename_i d;cases h;exact hp d
   · split at h
     · rename_i D;cases h;exact RM r D
     · cases h
theorem WA{e:Ba}:∀(k:Nd){s:CS}{l:Ty}{x:Er},F8 p e s l k=.error x→x.2.2≠0
 |.nil,_,_,_,h=>by cases h
 |.cons op ln co tx nm k r,s,l,x,h=>by
   unfold F8 at h
   split at h
   · rename_i d;cases h;exact hp d
   · split at h
     · rename_i D;cases h;exact Ic D
     · exact WA r h
theorem ZR{e:Ba}:∀(k:Nd){s:CS}{t:T1}{x:Er},Kr p e s t k=.error x→x.2.2≠0
 |.nil,_,_,_,h=>by cases h
 |.cons op ln co tx nm k r,s,t,x,h=>by
   unfold Kr at h
   split at h
   · rename_i d;cases h;exact hp d
   · split at h
     · rename_i D;cases h;exact Ic D
     · exact ZR r h
variable {k:Nd}
theorem aW{s:CS}{e:Ba}{ln co o l c m:Int}{tx x:lU}{y:Er}(h:HI p s e ln co tx o l c x m k=.error y):y.2.2≠0:=by
 unfold HI at h
 split at h
 · rename_i d;cases h;exact hp d
 · split at h
   · rename_i D;cases h;exact Ic D
   · cases h
omit hp
variable{q:OO}(hq:EcP q)
include hq
theorem S2:∀(k:Nd){s:CS}{e:Ba}{l:Ty}{x:Er},GD q s e l k=.error x→x.2.2≠0
 |.nil,_,_,_,_,h=>by cases h
 |.cons op ln co tx nm k r,s,e,l,x,h=>by
   unfold GD at h
   split at h
   · rename_i d;cases h;exact hq d
   · split at h
     · rename_i D;cases h;exact Ic D
     · exact S2 r h
theorem SY:∀(k:Nd){s:CS}{e:Ba}{x:Er},FF q s e k=.error x→x.2.2≠0
 |.nil,_,_,_,h=>by cases h
 |.cons op ln co tx nm k r,s,e,x,h=>by
   unfold FF at h
   split at h
   · rename_i d;cases h;exact hq d
   · split at h
     · rename_i D;cases h;exact SY r D
     · cases h
theorem mT{s:CS}{e:Ba}{op ln co:Int}{tx:lU}{x:Er}(h:Dh q s e op ln co tx k=.error x):x.2.2≠0:=by
 unfold Dh at h
 repeat' (split at h)
 all_goals first
   |(cases h;done)
   |(cases h;first|exact W9 (by assumption)|exact S2 hq _ (by assumption)|exact SY hq _ (by assumption))
omit hq
theorem dH:∀n,EcP (C4 n)
 |0=>λh=>by cases h;first|exact fT|exact e4
 |n+1=>λh=>by
   unfold C4 at h
   split at h
   · rename_i d;cases h;exact mT (dH n) d
   · split at h
     · rename_i d;cases h;exact Lw d
     · cases h
include hp
theorem Ns{e:Ba}{pt:T1}:∀(k:Nd){s:CS}{t:Option T1}{x:Er},DH n p e pt s t k=.error x→x.2.2≠0
 |.nil,_,_,_,h=>by unfold DH at h;cases h
 |.cons _ _ _ _ _ D r,s,t,x,h=>by
   unfold DH at h
   split at h
   · split at h
     · rename_i d;cases h;exact dH _ d
     · split at h
       · rename_i d;cases h;exact Ic d
       · split at h
         · rename_i d;cases h;exact hp d
         · split at h
           · split at h
             · rename_i d;cases h;exact Ic d
             · exact Ns r h
           · exact Ns r h
   · cases h
theorem lP{s:CS}{e:Ba}{op ln co:Int}{tx:lU}{x:Er}(h:Bl n p s e op ln co tx k=.error x):x.2.2≠0:=by
 unfold Bl at h
 by_cases Q:(op==1)=true
 · rw[if_pos Q] at h
   cases h
 rw[if_neg Q] at h
 by_cases U:(op==2)=true
 · rw[if_pos U] at h
   cases h
 rw[if_neg U] at h
 by_cases Y:(op==3)=true
 · rw[if_pos Y] at h
   cases h
 rw[if_neg Y] at h
 by_cases Z:(op==4)=true
 · rw[if_pos Z] at h
   cases h
 rw[if_neg Z] at h
 by_cases o5:(op==5)=true
 · rw[if_pos o5] at h
   exact lG h
 rw[if_neg o5] at h
 by_cases o6:(op==6)=true
 · rw[if_pos o6] at h
   split at h
   · rename_i d;cases h;exact W9 d
   split at h
   · rename_i d;cases h;exact WA hp _ d
   cases h
 rw[if_neg o6] at h
 by_cases o7:(op==7)=true
 · rw[if_pos o7] at h
   split at h
   · cases h
   simp only at h
   split at h
   · rename_i d;cases h;exact hp d
   cases h
 rw[if_neg o7] at h
 by_cases o8:(op==8)=true
 · rw[if_pos o8] at h
   split at h
   · cases h
   split at h
   · rename_i d;cases h;exact hp d
   exact ZR hp _ h
 rw[if_neg o8] at h
 by_cases o9:(op==9)=true
 · rw[if_pos o9] at h
   split at h
   · split at h
     · rename_i d;cases h;exact hp d
     split at h
     · rename_i d
       cases h
       split at d
       · cases d
       · exact Rg d
     exact hp h
   · cases h
 rw[if_neg o9] at h
 by_cases D:(op==10)=true
 · rw[if_pos D] at h
   split at h
   · split at h
     · rename_i d;cases h;exact aW hp d
     split at h
     · rename_i d;cases h;exact Rg d
     exact hp h
   · cases h
 rw[if_neg D] at h
 by_cases F:(op==11)=true
 · rw[if_pos F] at h
   split at h
   · split at h
     · rename_i d;cases h;exact hp d
     split at h
     · rename_i d;cases h;exact Ic d
     split at h
     · rename_i d;cases h;exact hp d
     split at h
     · rename_i d;cases h;exact hp d
     split at h
     · rename_i d;cases h;exact Ic d
     cases h
   · cases h
 rw[if_neg F] at h
 by_cases G:(op==12)=true
 · rw[if_pos G] at h
   split at h
   · rename_i d;cases h;exact RM hp _ d
   cases h
 rw[if_neg G] at h
 by_cases J:(op==13)=true
 · rw[if_pos J] at h
   split at h
   · rename_i d;cases h;exact RM hp _ d
   cases h
 rw[if_neg J] at h
 by_cases K:(op==14)=true
 · rw[if_pos K] at h
   split at h
   · cases h
   split at h
   · rename_i d;cases h;exact hp d
   exact Ns hp _ h
 rw[if_neg K] at h
 by_cases L:(op==15)=true
 · rw[if_pos L] at h
   split at h
   · cases h
   split at h
   · rename_i d;cases h;exact hp d
   exact Ns hp _ h
 rw[if_neg L] at h
 by_cases O:(op==16)=true
 · rw[if_pos O] at h
   split at h
   · cases h
   split at h
   · rename_i d;cases h;exact hp d
   split at h
   · rename_i d;cases h;exact Ic d
   cases h
 rw[if_neg O] at h
 split at h
 · cases h
 exact hp h
omit hp
theorem Wa:∀n,EcF (Ca n)
 |0=>λh=>by cases h;first|exact fT|exact e4
 |n+1=>λh=>by
   unfold Ca at h
   split at h
   · rename_i d;cases h;exact lP (Wa n) d
   · split at h
     · rename_i d;cases h;exact Lw d
     · cases h
end
theorem RC{d:List (lU×Int)}{v:List (lU×T1)}:∀(k:Nd){x:Er},Dr d v k=.error x→x.2.2≠0
 |.nil,_,h=>by cases h
 |.cons op ln co tx nm k r,x,h=>by
   have F:=λ{x:Er}=>RC (d:=d) (v:=v) k (x:=x);have G:=λ{x:Er}=>RC (d:=d) (v:=v) r (x:=x);rw[Kb] at h
   split at h
   · rename_i D
     cases h
     unfold CT at D
     split at D
     · split at D
       · cases D
       · cases D;exact fT
     · split at D
       · split at D
         · rename_i J;cases D;exact F J
         · cases D
       · cases D;exact fT
   · split at h
     · rename_i J;cases h;exact G J
     · cases h
theorem Pv{ln co:Int}:∀(k:Nd){v:Int}{m:List (lU×T1)}{self:Ty}{nums:List Int}{x:Er},CZ ln co k v m self nums=.error x→x.2.2≠0
 |.nil,_,_,_,_,_,h=>by cases h
 |.cons op _ _ tx _ _ r,v,m,self,nums,x,h=>by
   unfold CZ at h
   repeat' (split at h)
   · cases h;first|exact fT|exact e4
   · exact Pv r h
   · exact Pv r h
variable {nums:List Int}{k:Nd}
theorem N4{d:List (lU×Int)}{m:List (lU×T1)}{out:T1}:∀(k:Nd){c:List (lU×Mk)}{x:Er},C2 d m out nums k c=.error x→x.2.2≠0
 |.nil,_,_,h=>by cases h
 |.cons op ln co tx _ kids r,c,x,h=>by
   unfold C2 at h
   repeat' (split at h)
   · cases h;first|exact fT|exact e4
   · rename_i D;cases h;exact RC _ D
   · exact N4 r h
   · exact N4 r h
theorem oG{s:CS}{ln co:Int}{tx:lU}{x:Er}(h:FJ s ln co tx k=.error x):x.2.2≠0:=by
 unfold FJ at h
 split at h
 · cases h;first|exact fT|exact e4
 · split at h
   · rename_i d;cases h;exact Pv _ d
   · simp only at h
     split at h
     · rename_i d;cases h;exact N4 _ d
     · cases h
theorem wX{s:CS}{e:Ba}{op ln co:Int}{tx:lU}{x:Er}(h:Ds s e op ln co tx k=.error x):x.2.2≠0:=by
 unfold Ds at h
 repeat' (split at h)
 all_goals first
   |(cases h;done)
   |(cases h;first|exact fT|exact oG (by assumption)|exact RC _ (by assumption)|exact Wa _ (by assumption)|exact Ic (by assumption)|exact aW (Wa _) (by assumption)|exact Rg (by assumption))
theorem RZ:∀(k:Nd){s:CS}{e:Ba}{out:List (lU×T1)}{x:Er},DQ s e k out=.error x→x.2.2≠0
 |.nil,_,_,_,_,h=>by cases h
 |.cons op ln co tx nm k r,s,e,out,x,h=>by
   unfold DQ at h
   split at h
   · rename_i d;cases h;exact wX d
   · exact RZ r h
   · exact RZ r h
theorem aE{s:CS}:∀{l:List (lU×T1)}{x:Er},Ku s l=.error x→x.2.2≠0
 | [],_,h=>by cases h
 |(n,t)::l,x,h=>by
   unfold Ku at h
   split at h
   · rename_i d;cases h;exact Lw d
   · split at h
     · rename_i d;cases h;exact aE d
     · cases h
theorem aY{x:Er}(h:C3 k=.error x):x.2.2≠0:=by
 unfold C3 at h
 split at h
 · rename_i d;cases h;exact RZ k d
 · exact aE h
end Go.SP
namespace Go.Proofs.YtelmolopaolbcaaGreatDoor
open Go.SW Go.SP Go.RowKit Go.Proofs.Tryz
abbrev RB:=RI (List (lU×lU))
def NO(src:lU):RB:=bif (CE src).2.2.2==0 then C3 (CE src).1 else .error ((CE src).2.1,(CE src).2.2.1,(CE src).2.2.2)
def mW:RB→Int×Int×Int
 |.error e=>e
 |.ok _=>(0,0,0)
def bsR:RB→List (lU×lU)
 |.error _=>[]
 |.ok l=>l
abbrev inV(r:RB)(x:oA×Nat):Value:=.tuple #[.slice x.1 (bsR r).length x.2,.agg #[.int .i64 (mW r).1,.int .i64 (mW r).2.1],.int .i64 (mW r).2.2]
def InV(r:RB)(w:wO)(f:Fq):Value→wO→Prop:=B3 (α:=oA×Nat) (inV r) (λ_=>True) (λx=>[λw f=>K3 w f (bsR r) x.1 x.2]) w f
variable {f:Fq}{a:oA}{w w':wO}{src:lU}
theorem XZ.out{nds:Nd}{v:Value}(h:XZ nds w f v w'):InV (C3 nds) w f v w':=by
 obtain⟨f',d,h⟩:=h
 cases D:C3 nds with
 |error er =>
   rw[D] at h;exact⟨(none,0),f',h,tQ,d,⟨Nat.zero_le _,.inl C⟩,tQ⟩
 |ok J =>
   rw[D] at h;obtain⟨a,c,F,G⟩:=h;exact⟨(a,c),f',F,tQ,d,G,tQ⟩
theorem gM(w:wO)(f:Fq)(J:Vl w f)(K:FI w f)(nds:Nd)(d:oA)(nc:Nat)(D:nds.wft)(F:nds.size≤200000)(G:nds.txb)(L:AH w f nds d nc) :
   Bq prog 12 #[.slice d nds.len nc] w (InV (C3 nds) w f):=(Wc w f J K nds d nc D F G L).mono λ_ _ h=>XZ.out h
theorem I3(src:lU):WfN (CE src).1:=lF 200 src
theorem OQ(h:(CE src).2.2.2=0):NO src=C3 (CE src).1:=by unfold NO;rw[h];rfl
theorem fC(h:(CE src).2.2.2≠0):NO src=.error ((CE src).2.1,(CE src).2.2.1,(CE src).2.2.2):=by
 unfold NO;rw[show ((CE src).2.2.2==0)=false by simpa using h];rfl
theorem WL:∀(a b:Nd)(x off:Nat),P3 w f (a.app b) x off→P3 w f a x off
 |.nil,_,_,_,_=>trivial
 |.cons _ _ _ _ _ _ r,b,x,off,⟨d,h⟩=>⟨d,WL r b x _ h⟩
theorem len_app:∀(a b:Nd),(a.app b).len=a.len+b.len
 |.nil,b=>(Nat.zero_add _).symm
 |.cons _ _ _ _ _ _ r,b=>by show (r.app b).len+1=r.len+1+b.len;rw[len_app r b];omega
theorem jP{a b:Nd}{x:oA}{c:Nat}(h:AH w f (a.app b) x c):AH w f a x c:=by
 refine⟨by have:=h.1;rw[len_app] at this;omega,?_⟩
 cases a with
 |nil=>exact .inl C
 |cons op ln co tx nm k r =>
   rcases h.2 with h|⟨y,off,d,D⟩
   · cases h
   · exact .inr ⟨y,off,d,WL _ b _ _ D⟩
theorem K3.opn{l:List (lU×lU)}{c:Nat}(h:K3 w f l a c)(d:l≠[]):∃x:Nat×Nat,a=some ⟨x.1,x.2,none⟩∧Cs w f x.1 x.2 (bC l) :=
 h.2.elim (λh=>absurd h d) λ⟨b,off,D,F⟩=>⟨(b,off),D,F⟩
end Go.Proofs.YtelmolopaolbcaaGreatDoor
namespace Go.Proofs.YtelmolopaolbcaaGreatDoor
open Go.SW Go.SP Go.RowKit Go.Lib
section
variable{P:Program}{w:World}
variable {e t:TypeId}
theorem Ra{g:Nat}{k:IntKind}{zero:Array Value}(h:w.ShapedOpen P)(O:g<P.globals.size)
   (Q:((begin P (λ_ _=>0) default).world.heap[g]?).bind Obj.row?=some (zero,t)) (hz:zero.size=1)
   (U:P.buildable t=true) (Y:P.cellTypes P.depth t=some [t]) (hu:P.underlying t=some (.int k)):∃m,w.cell? ⟨g,0,none⟩=some (.int k m):=by
 obtain⟨cs,Z,hs,hr⟩:=h.1 g zero t O Q;obtain⟨ts,F,_,G⟩:=hr U;rw[Y] at F
 cases F
 have K:0<cs.size:=oM;obtain⟨u,J,d⟩:=G 0 cs[0] (by simp[K]);have:u=t:=by simpa using J.symm
 subst this;have D:w.cell? ⟨g,0,none⟩=some cs[0]:=by simp[World.cell?,Z,K]
 rw[D];unfold Cell.ok at d;rw[hu] at d
 cases L:cs[0] with
 |int k' m =>
   rw[L] at d
   have hk:k'=k:=by
     simp at d;exact d.1
   exact⟨m,by rw[hk]⟩
 |_=>rw[L] at d;simp at d
theorem J7{n:String}{g:Nat}{cs:Array Value}(d:P.globalNamed n=some g)(h:w.var? P n=some cs)(o:Nat):w.cell? ⟨g,o,none⟩=cs.toList[o]?:=by
 rw[World.var?_cell d h o,Array.getElem?_toList]
theorem VK{n:String}{g:Nat}{b:Bool}(F:P.globalNamed n=some g)(G:(P.globals[g]?).map (·.type)=some t)(J:P.underlying t=some .bool)(h:VarReads P w n (.lit (.bool b))):w.cell? ⟨g,0,none⟩=some (.bool b):=by
 obtain⟨Q,t',cs,fuel,p,K,D,d,hd⟩:=h;obtain rfl:=Option.some.inj (F.symm.trans K);obtain rfl:=Option.some.inj (G.symm.trans D);obtain⟨U,L,O⟩:=DataW.trod_bool J hd;rw[J7 F d,L]
 cases O
 rfl
theorem S1{n:String}{g:Nat}{ms}{d:DataW Unit}(G:P.globalNamed n=some g)(J:(P.globals[g]?).map (·.type)=some t)(K:P.underlying t=some (.interface ms))(h:VarReads P w n d) :
   ∃v,w.cell? ⟨g,0,none⟩=some v∧(v=.nilIface∨∃te pe,v=.iface te pe):=by
 obtain⟨Q,t',cs,fuel,p,L,F,D,hd⟩:=h;obtain rfl:=Option.some.inj (G.symm.trans L);obtain rfl:=Option.some.inj (J.symm.trans F);rw[J7 G D]
 cases fuel with
 |zero=>simp[DataW.trod] at hd
 |succ fuel =>
   unfold DataW.trod at hd;rw[K] at hd;generalize cs.toList=l at hd
   split at hd
   all_goals first
     |(rename_i heq;cases heq;done)
     |(rename_i O U;cases O;done)
     |(exact⟨_,rfl,.inl rfl⟩)
     |(exact⟨_,rfl,.inr ⟨_,_,rfl⟩⟩)
     |cases hd
theorem U6{n:String}{g:Nat}{fs:Array Field}{f:Field}{k:IntKind}{z:Int}{ds:List (DataW Unit)}(U:P.globalNamed n=some g)(Y:(P.globals[g]?).map (·.type)=some t)(Z:P.underlying t=some (.struct fs))
   (hf:fs[0]?=some f) (G:f.offset=0) (J:P.underlying f.type=some (.int k)) (K:P.cellsOf f.type=1) (h:VarReads P w n (.agg (.lit (.int k z)::ds))):w.cell? ⟨g,0,none⟩=some (.int k z):=by
 obtain⟨g',t',cs,fuel,p,hg,L,d,hd⟩:=h;obtain rfl:=Option.some.inj (U.symm.trans hg);obtain rfl:=Option.some.inj (Y.symm.trans L);obtain⟨xs,m,rfl,hx,hl,hxl,D⟩:=DataW.trod_struct Z hd;have h0:=D 0 f hf;have e0:xs.map (·.1)=.lit (.int k z)::ds:=by have:=congrArg Prod.fst hx;simpa using this.symm
 cases xs with
 |nil=>cases e0
 |cons x xs =>
   simp only[List.map_cons,List.cons.injEq] at e0;obtain⟨z',hz,O,_⟩:=DataW.trod_int J (h0.trans (by rfl));rw[J7 U d]
   have Q:z'=z:=by
     have:=O▸e0.1;simpa using this
   subst Q;rw[G,K,List.drop_zero] at hz
   cases F:cs.toList with
   |nil=>rw[F] at hz;cases hz
   |cons c r=>rw[F] at hz;simp at hz;simp[hz]
theorem Uk{n:String}{g:Nat}{l:List (DataW Unit)}{c:Nat}{m:Int}(Q:P.globalNamed n=some g)(Z:(P.globals[g]?).map (·.type)=some t)(ht:P.underlying t=some (.array 256 e))(he:P.underlying e=some (.int .u8))(G:P.cellsOf e=1)
   (h:VarReads P w n (.agg l)) (hc:c<256) (U:l[c]?=some (.lit (.int .u8 m))):w.cell? ⟨g,c,none⟩=some (.int .u8 m):=by
 obtain⟨g',t',cs,fuel,p,hg,J,d,hd⟩:=h;obtain rfl:=Option.some.inj (Q.symm.trans hg);obtain rfl:=Option.some.inj (Z.symm.trans J);obtain⟨xs,k,rfl,hx,hcl,hxl,D⟩:=DataW.trod_array ht hd;have e0:xs.map (·.1)=l:=by have:=congrArg Prod.fst hx;simpa using this.symm
 have K:=D c hc;rw[G,Nat.mul_one] at K;have F:xs[c]?=some (xs[c]'oM):=List.getElem?_eq_getElem oM;rw[F] at K;obtain⟨z,hz,L,_⟩:=DataW.trod_int he K;have e1:l[c]?=some ((xs[c]'oM).1):=by rw[← e0,List.getElem?_map,F];rfl
 rw[e1,L] at U;have O:z=m:=by simpa using U
 subst O;rw[J7 Q d];have Y:((cs.toList.drop c).take 1)[0]?=some (.int .u8 z):=by rw[hz];rfl
 rw[List.getElem?_take] at Y;simpa using Y
theorem RU{n:String}{g:Nat}{k:FloatKind}{l:List Nat}(hn:P.globalNamed n=some g)(hy:(P.globals[g]?).map (·.type)=some t)(ht:P.underlying t=some (.slice e))(he:P.underlying e=some (.float k))(hc:P.cellsOf e=1)
   (hl:0<l.length) (h:VarReads P w n (.slice (l.map λx=>.lit (.float k x)) [])):∃b off len cap,w.cell? ⟨g,0,none⟩=some (.slice (some ⟨b,off,none⟩) len cap)∧l.length≤len∧∀(j v:Nat),l[j]?=some v→w.cell? ⟨b,off+j,none⟩=some (.float k v):=by
 obtain⟨g',t',cs,fuel,p,hg,O,G,hd⟩:=h;obtain rfl:=Option.some.inj (hn.symm.trans hg);obtain rfl:=Option.some.inj (hy.symm.trans O);rcases DataW.trod_slice ht hd with ⟨_,Q⟩|⟨a,len,cap,el,rs,m,rfl,U,Q,_,hlc,_,hel,F,hsp,_⟩
 · cases Q
 have e0:=congrArg Prod.fst Q;simp only[DataW.slice.injEq] at e0;have hlen:len=l.length:=by have:=congrArg List.length e0.1;simp at this;omega
 have d:∀(j v:Nat),l[j]?=some v→w.cell? (a.add j)=some (.float k v):=by
   intro j v L;obtain⟨hj,hjv⟩:=List.getElem?_eq_some_iff.1 L;have Y:=F j oM;rw[hc,Nat.mul_one] at Y;obtain⟨b,hb⟩:∃b,el[j]?=some b:=⟨el[j]'oM,List.getElem?_eq_getElem oM⟩;rw[hb] at Y;obtain⟨ce,Z,D⟩:=Option.bind_eq_some_iff.1 Y
   have hb1:b.1=.lit (.float k v):=by
     have:=congrArg (·[j]?) e0.1;simp[hb,L] at this;exact this.symm
   have J:ce=[.float k v]:=by
     cases m with
     |zero=>simp[DataW.trod] at D
     |succ m =>
       unfold DataW.trod at D;rw[he] at D
       split at D <;> simp_all
       obtain⟨⟨rfl,_⟩,rfl⟩:=D;simpa using hb1
   obtain⟨_,_,hcc⟩:=World.cells?_some Z;have h0:=hcc 0 oM;rw[J] at h0;have e1:(a.add j).add 0=a.add j:=by simp[Addr.add]
   rw[e1] at h0;exact h0
 obtain⟨R,o,sR⟩:=a
 obtain rfl:sR=none:=by
   obtain⟨v0,hv0⟩:∃v,l[0]?=some v:=⟨l[0],List.getElem?_eq_getElem hl⟩;have K:=d 0 v0 hv0;have:(Addr.add ⟨R,o,sR⟩ 0)=⟨R,o,sR⟩:=by simp[Addr.add]
   rw[this] at K;exact Go.Proofs.cell_spot K
 refine⟨R,o,len,cap,?_,oM,λj v L=>?_⟩
 · rw[J7 hn G,U];rfl
 · have:=d j v L
   rwa[EH] at this
end
end Go.Proofs.YtelmolopaolbcaaGreatDoor
namespace Go.SW
open Go.RowKit
def Z7(w:wO):Fq:=λb=>match w.heap[b]? with
 |some (.cells cs _ _)=>cs.size
 |_=>0
theorem Wi(w:wO):Vl w (Z7 w):=λb h=>by
 unfold Z7;rw[Array.getElem?_eq_none h]
variable {b o:Nat}{w:wO}
theorem Ix{v:Value}(h:w.cell? ⟨b,o,none⟩=some v):o<Z7 w b:=by
 unfold Z7;unfold World.cell? at h
 cases d:w.heap[b]? with
 |none=>rw[d] at h;cases h
 |some x =>
   rw[d] at h
   cases x with
   |cells c e fr=>simpa using (Array.getElem?_eq_some_iff.1 h).1
   |_=>cases h
end Go.SW
namespace Go.Proofs.YtelmolopaolbcaaGreatDoor
open Go.SW Go.SP Go.RowKit Go.Lib Go.ChangeShapes Go.WideShapes Go.ChangeAt
theorem own:ownKnob Tryz.prog.godebug=none:=kR
def VV:List Nat:=[4607182418800017408,4621819117588971520,4636737291354636288,4652007308841189376,4666723172467343360,4681608360884174848,4696837146684686336,4711630319722168320,4726483295884279808,4741671816366391296,4756540486875873280,4771362005757984768,4786511204640096256,4801453603149578240,4816244402031689728,4831355200913801216,4846369599423283200,4861130398305394688,4876203697187506176,4891288408196988160,4906019910204099648,4921056587992461136,4936209963552724370]
variable {args:Array Value}{fid:FuncId}{j:Nat}{W:World}
theorem Yn{v:Nat}(h:G3[j]?=some v):VV[j]?=some v:=by
 have e:G3=VV.take 15:=rfl;rw[e,List.getElem?_take] at h
 split at h
 · exact h
 · cases h
abbrev XK:List (String×DataW Unit):=Rows.schemaDeepRow.laid
theorem Lm(k:Nat){n:String}{d:DataW Unit}(h:laidMet Tryz.prog XK W)(D:XK[k]?=some (n,d):=by rfl):VarReads Tryz.prog W n d:=laidMet.reads h (List.mem_of_getElem? D)
theorem uV:(Rows.laid_strings_asciiSpace:DataW Unit)=.agg ((List.range 256).map λc=>.lit (.int .u8 (if Lib.isSp (UInt8.ofNat c) then 1 else 0))):=kR
theorem yZ(h:laidMetH Tryz.prog XK W)(F:W.ShapedOpen Tryz.prog):Gl W∧∀c:Nat,c<256→W.cell? ⟨0,c,none⟩=some (.int .u8 (if Lib.isSp (UInt8.ofNat c) then 1 else 0)):=by
 rw[MakeChecks.laidMetH_plain _ _ _ (by kernel_rfl)] at h;refine⟨⟨?_,?_,?_,?_,?_⟩,?_⟩
 · exact Ra (t:=3) (zero:=#[.int .i64 0]) F (of_decide_eq_true kR) kR kR kR kR Tryz.underlying3
 · obtain⟨ms,hm⟩:=It (show ZF Tryz.prog 184=true by kernel_rfl)
   exact S1 (t:=184) kR kR hm (Lm 10 h)
 · exact VK (t:=4) kR kR Tryz.underlying4 (Lm 4 h)
 · exact U6 (t:=298) kR kR (fs:=Tryz.prog.fieldsOf 298) kR (f:=(Tryz.prog.fieldsOf 298)[0]!) kR kR kR kR
     (Lm 3 h)
 · obtain⟨b,off,n,c,G,J,K⟩:=RU (l:=VV) kR kR (t:=333) (e:=213) kR kR kR dC (Lm 6 h)
   exact⟨b,off,n,c,G,Nat.le_trans dC J,λj v L=>K j v (Yn L)⟩
 · intro c d
   have D:=Lm 13 h;rw[uV] at D;exact Uk (t:=196) (e:=5) kR kR kR kR kR D d (by rw[List.getElem?_map,List.getElem?_range d];rfl)
theorem qK(h:laidMetH Tryz.prog XK W)(G:W.ShapedOpen Tryz.prog):Dy W (Z7 W)∧FI W (Z7 W):=by
 obtain⟨⟨⟨m,hm⟩,⟨v,J,K⟩,L,O,⟨b,off,n,c,Q,U,Y⟩⟩,d⟩:=yZ h G;refine⟨λw' f' Z=>?_,⟨m,λj v D=>?_⟩,λc F=>⟨Ix (d c F),d c F⟩⟩
 · have k:∀{b o:Nat}{v:Value},W.cell? ⟨b,o,none⟩=some v→w'.cell? ⟨b,o,none⟩=some v:=λ{b o v} h=>((Z b).2 o (Ix h)).trans h
   exact⟨⟨m,k hm⟩,⟨v,k J,K⟩,k L,k O,⟨b,off,n,c,k Q,U,λj v hv=>k (Y j v hv)⟩⟩
 · cases j with
   |zero=>cases D;exact⟨Ix hm,hm⟩
   |succ j=>cases D
theorem iE(h:Bq Tryz.prog fid args W (B3 (α:=Unit) (λ_=>.bool true) (λ_=>True) (λ_=>[]) W (Z7 W))):Bq Tryz.prog fid args W λv w'=>v=.bool true∧AU W w' :=
 h.mono λ_ _ ⟨_,_,d,_,D,_⟩=>⟨d,D.stp.ext⟩
end Go.Proofs.YtelmolopaolbcaaGreatDoor
namespace Go.SP
open Go.SW Go.RowKit
def QU(w:wO)(f:Fq)(l:List (List Int))(a:oA):Prop:=∀(i:Nat)(x:List Int),l[i]?=some x→∃b off a' c',a=some ⟨b,off,none⟩∧Cs w f b (off+i*1) [.slice a' x.length c']∧B9 w f x a' c'
variable {a:oA}
theorem QU.mono{l:List (List Int)}:FU (λw f=>QU w f l a):=λ_ _ _ _ h d i x D =>
 let ⟨b,off,a',c',F,G,J⟩:=h i x D
 ⟨b,off,a',c',F,G.mono d,B9.mono _ _ _ _ J d⟩
end Go.SP
namespace Go.Proofs.YtelmolopaolbcaaGreatDoor
open Go.SW Go.SP Go.RowKit Go.Lib Go.ChangeShapes Go.WideShapes Go.ChangeAt
variable {ps:List MemPlace}{P:Program}{t:tI}{W:wO}
theorem Nx{H:Type}{enc:tI×Value→H}{v:Value}{d:DataW H}(Q:laidOutB P=true)(J:P.readableRec t=true)(U:decide (t<P.types.size)=true)(h:DataW.Trod enc P W 0 (λ_=>true) true t v d ps) :
   ∀D,AU W D→DataW.Trod enc P D 0 (λb=>decide (b<W.heap.size)) true t v d ps:=λD K=>by
 obtain⟨n,L⟩:=h;have F:=DataW.trod_lt n _ _ _ L;refine DataW.Trod.respare (kids_book Q J) (λ_ _=>book_sized J) (t:=t) ⟨dT U,book_self t⟩ ⟨n,DataW.trod_carry n _ _ _ L λp G=>?_⟩ λp G=>by simpa using F p G
 have O:=F p G
 cases p with
 |cell b off =>
   show D.cell? ⟨b,off,none⟩=W.cell? ⟨b,off,none⟩;unfold World.cell?;rw[show D.heap[(⟨b,off,none⟩:Addr).block]?=W.heap[(⟨b,off,none⟩:Addr).block]? from K.block b O]
 |map b=>exact K.block b O
def shT(P:Program)(t:tI):Bool:=match P.underlying t with
 |some (.struct fs)=>(match fs.toList with
   | [f,g]=>(f.offset==0&&g.offset==1)&&(P.cellsOf f.type==1&&P.cellsOf g.type==1)&&P.cellsOf t==2&&(match P.underlying f.type,P.underlying g.type with
     |some (.int .i64),some (.slice e)=>(match P.underlying e with|some (.slice q)=>(P.cellsOf e==1&&P.cellsOf q==1)&&(match P.underlying q with|some (.int .i64)=>true|_=>false)|_=>false)
     |_,_=>false)
   |_=>false)
 |_=>false
theorem N7{H:Type}{enc:tI×Value→H}{r:Reach}{b0:Nat}{v:Value}{d:DataW H}(J:shT P t=true)
   (hval:Value.okWide P W r b0 t v) (hd:DataW.Trod enc P W 0 (λ_=>true) true t v d ps) :
   ∃(n:Int)(l:List (List Int))(a:oA)(c:Nat),v=.agg #[.int .i64 n,.slice a l.length c]∧QU W (Z7 W) l a:=by
 unfold shT at J
 split at J
 · rename_i fs hu
   split at J
   · rename_i f g hfs
     obtain⟨fl⟩:=fs;simp only at hfs;subst hfs;simp only[Bool.and_eq_true,beq_iff_eq] at J;obtain⟨⟨⟨⟨o1,o2⟩,c1,c2⟩,ct⟩,D⟩:=J
     split at D
     · rename_i e hf hg
       split at D
       · rename_i q he
         simp only[Bool.and_eq_true,beq_iff_eq] at D;obtain⟨⟨ce,cq⟩,D⟩:=D
         split at D
         · rename_i hq
           obtain⟨cs,rfl,hsz⟩:=okWide_struct hu hval;rw[ct] at hsz;obtain⟨fuel,hft⟩:=hd;obtain⟨y0,y1,m,_,_,h4,h5⟩:=trod_struct2 hu hft;rw[o1,c1] at h4;rw[o2,c2] at h5;obtain⟨cl⟩:=cs
           match cl,hsz with
           | [u,v],_ =>
             obtain⟨n,e1,_⟩:=DataW.trod_int hf h4;have e1:[u]=[.int .i64 n]:=e1
             cases e1
             rcases Go.Deep.open_int_rows hg he hq ce cq h5 with ⟨K,_⟩|⟨a,len,cap,A,L,C,Z,K,_,hlc,_,_,F⟩
             · have K:[v]=[.slice none 0 0]:=K
               cases K
               exact⟨n,[],none,0,rfl,λi x O=>by cases O⟩
             · have K:[v]=[.slice (some a) len cap]:=K
               cases K
               refine⟨n,(List.range len).map λr=>(Z r).take (L r),some a,cap,by simp,λi x O=>?_⟩;rw[List.getElem?_map] at O
               have hil:i<len:=by
                 rcases Nat.lt_or_ge i len with h|h
                 · exact h
                 · rw[List.getElem?_eq_none (by simpa using h)] at O;cases O
               rw[List.getElem?_range hil] at O;obtain rfl:(Z i).take (L i)=x:=Option.some.inj O;obtain⟨k1,k2,_,k4,_,k6,k7⟩:=F i oM;have Q:((Z i).take (L i)).length=L i:=by rw[List.length_take];omega
               obtain⟨b,off,s⟩:=a;have hs:=World.cell?_spot (F 0 oM).1
               have hs:s=none:=by
                 cases s with
                 |none=>rfl
                 |some k=>simp[Addr.add] at hs
               subst hs;rw[WideShapes.add_plain] at k1;refine⟨b,off,A i,C i,rfl,λj v G=>?_,?_⟩
               · rw[Nat.mul_one]
                 cases j with
                 |zero=>cases G;rw[Q];exact⟨Ix k1,k1⟩
                 |succ j=>cases G
               · refine⟨by rw[Q];exact k2,?_⟩
                 by_cases h0:(Z i).take (L i)=[]
                 · exact .inl h0
                 · have hp:0<L i:=by
                     rcases Nat.eq_zero_or_pos (L i) with h|h
                     · rw[h] at h0;exact absurd rfl h0
                     · exact h
                   cases hA:A i with
                   |none=>have:=k6 hA;omega
                   |some a' =>
                     obtain⟨_,hc⟩:=k7 a' hA;obtain⟨b',off',s'⟩:=a';have U:=World.cell?_spot (hc 0 oM)
                     have U:s'=none:=by
                       cases s' with
                       |none=>rfl
                       |some k=>simp[Addr.add] at U
                     subst U;refine .inr ⟨b',off',rfl,λj v G=>?_⟩;rw[List.getElem?_map] at G
                     have hjl:j<L i:=by
                       rcases Nat.lt_or_ge j (L i) with h|h
                       · exact h
                       · rw[List.getElem?_eq_none (by rw[Q];exact h)] at G;cases G
                     have Y:=hc j oM;rw[WideShapes.add_plain] at Y
                     have e1:v=.int .i64 ((Z i).getD j 0):=by
                       rw[List.getElem?_take,if_pos hjl,List.getElem?_eq_getElem (by omega)] at G;rw[List.getD_eq_getElem?_getD,List.getElem?_eq_getElem (by omega)];exact (Option.some.inj G).symm
                     rw[e1];exact⟨Ix Y,Y⟩
         · cases D
       · cases D
     · cases D
   · cases J
 · cases J
end Go.Proofs.YtelmolopaolbcaaGreatDoor
namespace Go.SP
structure GP where
 met:List lU
 keeps:Bool
def Ji:List lU→lU→Int
 | [],_ => -1
 |k::l,n=>if k==n then 0 else (let j:=Ji l n;if j<0 then j else j+1)
def YL(vars:List lU)(tx:lU):lU:=39::(Utf8.encode (97+Ji vars tx)).data.toList
def B1(dn:lU→Bool)(tx:lU)(s:GP):GP :=
 ⟨if dn tx&&!s.met.contains tx then s.met++[tx] else s.met,s.keeps&&!(tx==DA)&&!(tx==Ig)⟩
def allS(dn:lU→Bool)(vars:List lU):Nd→GP→lU×GP
 |.nil,s=>([],s)
 |.cons op _ _ tx _ k r,s =>
   let a:=if op==31 then (YL vars tx,s)
     else if k.len=0 then (tx,B1 dn tx s)
     else ([40]++tx++(allS dn vars k (B1 dn tx s)).1++[41],(allS dn vars k (B1 dn tx s)).2)
   let b:=allS dn vars r a.2
   (32::(a.1++b.1),b.2)
def CR(dn:lU→Bool)(vars:List lU)(op:Int)(tx:lU)(k:Nd)(s:GP):lU×GP :=
 if op==31 then (YL vars tx,s)
 else if k.len=0 then (tx,B1 dn tx s)
 else ([40]++tx++(allS dn vars k (B1 dn tx s)).1++[41],(allS dn vars k (B1 dn tx s)).2)
def Ct:Nd→List lU×Nd×Nd
 |.nil=>([],.nil,.nil)
 |.cons op ln co tx nm k r=>if op==31 then (tx::(Ct r).1,.cons op ln co tx nm k (Ct r).2.1,(Ct r).2.2) else ([],.nil,.cons op ln co tx nm k r)
def Ed(dn:lU→Bool)(vars:List lU):Nd→GP→List lU×GP
 |.nil,s=>([],s)
 |.cons _ _ _ tx _ k r,s=>((tx++(allS dn vars k s).1)::(Ed dn vars r (allS dn vars k s).2).1,(Ed dn vars r (allS dn vars k s).2).2)
def FH:List lU→lU
 | []=>[]
 | [a]=>a
 |a::b::l=>a++44::FH (b::l)
def ET(dn:lU→Bool)(tx:lU)(k:Nd)(s:GP):lU×GP :=
 let v:=Ct k
 let c:=Ed dn v.1 v.2.2 s
 ([124]++tx++(allS dn v.1 v.2.1 c.2).1++[61]++FH c.1,(allS dn v.1 v.2.1 c.2).2)
def C1:Nd→List (lU×Nd)
 |.nil=>[]
 |.cons op _ _ tx _ k r=>if op==41 then C1 r++[(tx,k)] else C1 r
def Be(ds:List (lU×Nd))(tx:lU):Bool:=(AD ds tx).isSome
def HN(ds:List (lU×Nd)):Nat→Nat→lU→GP→lU×GP
 |0,_,t,s=>(t,s)
 |n+1,i,t,s=>match s.met[i]? with
   |none=>(t,s)
   |some d=>HN ds n (i+1) (t++(ET (Be ds) d ((AD ds d).getD .nil) s).1) (ET (Be ds) d ((AD ds d).getD .nil) s).2
def Kx(ds:List (lU×Nd))(op:Int)(tx:lU)(k:Nd):lU×GP :=
 HN ds (ds.length+1) 0 (CR (Be ds) [] op tx k ⟨[],true⟩).1 (CR (Be ds) [] op tx k ⟨[],true⟩).2
def Re(ds:List (lU×Nd)):Nd→List (lU×lU)→Except Er (List (lU×lU))
 |.nil,out=>.ok out
 |.cons op ln co tx _ k r,out=>if op==43 then (if (out.length:Int)==100 then .error (ln,co,4) else match k with
     |.nil=>Re ds r out
     |.cons o l c x _ k1 _=>let w:=Kx ds o x k1
       if !w.2.keeps then .error (l,c,17) else if w.1.length>1000 then .error (l,c,4) else Re ds r (out++[(tx,w.1)]))
   else Re ds r out
def ZA(nds:Nd):Except Er (List (lU×lU)):=Re (C1 nds) nds []
end Go.SP
namespace Go.Proofs.YtelmolopaolbcaaGreatDoor
open Go.SW Go.SP Go.RowKit
def Ht(src:lU):Option RB:=match NO src with
 |.error _=>none
 |.ok _=>some (ZA (CE src).1)
def rtV(o:Option RB)(x:oA×Nat):Value:=match o with
 |none=>.tuple #[.slice none 0 0,.agg #[.int .i64 0,.int .i64 0],.int .i64 0,.bool false]
 |some r=>.tuple #[.slice x.1 (bsR r).length x.2,.agg #[.int .i64 (mW r).1,.int .i64 (mW r).2.1],.int .i64 (mW r).2.2,.bool true]
def rtB:Option RB→List (lU×lU)
 |none=>[]
 |some r=>bsR r
def RtV(o:Option RB)(w:wO)(f:Fq):Value→wO→Prop:=B3 (α:=oA×Nat) (rtV o) (λ_=>True) (λx=>[λw f=>K3 w f (rtB o) x.1 x.2]) w f
def fB:lU:=[40,100,97,116,97,32,108,105,115,116,32,40,39,120,41,32,40,78,105,108,41,32,40,67,111,110,115,32,39,120,32,40,108,105,115,116,32,39,120,41,41,41,32,40,114,111,111,116,32,114,32,40,108,105,115,116,32,105,110,116,41,32,78,105,108,41]
def aR:lU:=[40,114,111,111,116,32,114,32,40,45,62,32,105,110,116,32,105,110,116,41,32,110,101,103,41]
def sV:List (lU×lU):=[([114],[40,108,105,115,116,32,105,110,116,41,124,108,105,115,116,32,39,97,61,78,105,108,44,67,111,110,115,32,39,97,32,40,108,105,115,116,32,39,97,41])]
set_option maxRecDepth 100000 in
theorem rL:Ht fB=some (.ok sV):=kR
set_option maxRecDepth 100000 in
theorem rT:Ht aR=some (.error (1,9,17)):=kR
end Go.Proofs.YtelmolopaolbcaaGreatDoor
namespace Go.SP
open Go.SW Go.RowKit
def oT(w:wO)(l:List lU)(a:oA)(c:Nat):Prop:=l.length≤c∧(l=[]∨∃b off,a=some ⟨b,off,none⟩∧∀j v,(l.map S)[j]?=some v→w.cell? ⟨b,off+j,none⟩=some v)
def IS(w:wO)(f:Fq)(l:List lU)(a:oA)(c:Nat):Prop:=l.length≤c∧(l=[]∨∃b off,a=some ⟨b,off,none⟩∧Cs w f b off (l.map S))
section
variable{w:wO}{f:Fq}{l:List lU}{a:oA}{c:Nat}
theorem IS.mono:FU (λw f=>IS w f l a c):=λ_ _ _ _ h d=>⟨h.1,h.2.imp id λ⟨b,off,D,F⟩=>⟨b,off,D,F.mono d⟩⟩
theorem IS.sw(h:IS w f l a c):oT w l a c:=⟨h.1,h.2.imp id λ⟨b,off,d,D⟩=>⟨b,off,d,λj v F=>(D j v F).2⟩⟩
theorem oT.fz(h:oT w l a c):IS w (Z7 w) l a c:=⟨h.1,h.2.imp id λ⟨b,off,F,d⟩=>⟨b,off,F,λj v D=>⟨Ix (d j v D),d j v D⟩⟩⟩
theorem IS.get(h:IS w f l a c){i:Nat}{x:lU}(d:l[i]?=some x):∃b off,a=some ⟨b,off,none⟩∧Cs w f b (off+i*1) [S x]:=by
 rcases h.2 with h|⟨b,off,F,G⟩
 · subst h;cases d
 · refine⟨b,off,F,λj v D=>?_⟩
   cases j with
   |zero =>
     cases D
     have:=G i (S x) (by rw[List.getElem?_map,d];rfl);rw[Nat.mul_one,Nat.add_zero];exact this
   |succ j=>cases D
theorem oT.row{e:tI}(h:BX w e 1 a c l.length (l.map S)):oT w l a c:=by
 rcases h.2 with ⟨_,_,hz⟩|⟨b,q,F,G,D,_,L,J⟩
 · exact⟨oM,.inl (by cases l with|nil=>rfl|cons _ _=>simp at hz)⟩
 · refine⟨D,.inr ⟨b,0,F,λj v K=>?_⟩⟩
   rw[Nat.zero_add,G.cell];have d:=K;rw[← J,List.getElem?_take] at d
   split at d
   · exact d
   · cases d
end
theorem fF{X:Cx}{w:wO}{f:Fq}{H:List HB}{R:List RB}{B:List FB}{Fs:List (wO→Fq→Prop)}{T:tI}{a:oA}{c:Nat}{l:List lU}(D:AQ X w f H (⟨T,1,a,c,l.length,l.map S⟩::R) B Fs):∃f',AQ X w f' H R B Fs∧IS w f' l a c:=by
 have J:=D.row _ (.head _);rcases J.2 with ⟨_,_,hz⟩|⟨b,q,G,K,F,_,L,O⟩
 · simp only at hz
   exact⟨f,D.less (List.Sublist.refl _) (List.sublist_cons_self _ _) (λ_ h=>h) (λ_ h=>h),oM,.inl (by cases l with|nil=>rfl|cons _ _=>simp at hz)⟩
 · simp only at G
   subst G;obtain⟨f',d⟩:=D.done (i:=0) C C;refine⟨f',d.less (List.Sublist.refl _) (List.Sublist.refl _) (λ_ h=>.tail _ h) (λ_ h=>h),F,.inr ⟨b,0,C,d.fro _ (.head _)⟩⟩
def G8(w:wO)(f:Fq):List (lU×Nd)→List (lU×Value)→Prop
 | [],es=>es=[]
 |(k,x)::l,es=>∃op ln co nm a c d,es=(k,.agg (KW op ln co k nm a x.len c).toArray)::d∧AH w f x a c∧G8 w f l d
theorem G8.mono{w w':wO}{f f':Fq}(D:Ii w f w' f'):∀(l:List (lU×Nd))(es:List (lU×Value)),G8 w f l es→G8 w' f' l es
 | [],_,h=>h
 |(_,_)::l,_,⟨op,ln,co,nm,a,c,d,F,G,J⟩=>⟨op,ln,co,nm,a,c,d,F,AH.mono _ _ _ _ G D,G8.mono D l d J⟩
theorem G8.look{w:wO}{f:Fq}{n:lU}:∀{l:List (lU×Nd)}{es:List (lU×Value)},G8 w f l es→(AD l n=none→ER es n=none)∧∀x,AD l n=some x→∃op ln co nm a c,ER es n=some (.agg (KW op ln co n nm a x.len c).toArray)∧AH w f x a c
 | [],es,h=>by
   have h:es=[]:=h;subst h;exact⟨λ_=>C,λt h=>by cases h⟩
 |(k,x)::l,es,⟨op,ln,co,nm,a,c,D,F,G,J⟩=>by
   subst F;have K:=G8.look (n:=n) J;simp only[AD,ER]
   by_cases d:k=n
   · subst d
     refine⟨λh=>by simp at h,λt' h=>?_⟩;simp at h;subst h;exact⟨op,ln,co,nm,a,c,by simp,G⟩
   · have L:(k==n)=false:=by simpa using d
     have O:(n==k)=false:=by simpa using λe:n=k=>d e.symm
     rw[L,O];simpa using K
def Gb(wb mb:Nat)(a:oA)(b:Nat):Prop:=b=wb∨b=mb∨rb a=some b
structure He(T e:tI)(wb mb:Nat)(ds:List (lU×Nd))(sl kp:Value)(a:oA)(c:Nat)(l:List lU)(w:wO)(f:Fq):Prop where
 blk:AM w wb [.map (some mb),sl,kp] T
 map:∃es,BM BQ w mb es∧G8 w f ds es∧Jp es
 row:BX w e 1 a c l.length (l.map S)
 ne:wb≠mb∧rb a≠some wb∧rb a≠some mb
section
variable{T e:tI}{wb mb:Nat}{ds:List (lU×Nd)}{sl sl' kp kp':Value}{a a':oA}{c c':Nat}{l:List lU}{w w':wO}{f f':Fq}{x:lU}
theorem He.stab:FD (Gb wb mb a) (He T e wb mb ds sl kp a c l):=λ_ _ _ _ h J D =>
 ⟨(D wb (.inl C)).trans h.blk,let ⟨es,d,F,G⟩:=h.map;⟨es,d.heap (D mb (.inr (.inl C))),G8.mono J _ _ F,G⟩,⟨h.row.1,h.row.2.imp id λ⟨b,q,d,F,G⟩=>⟨b,q,d,(D b (.inr (.inr (by rw[d];rfl)))).trans F,G⟩⟩,h.ne⟩
variable {b:Nat}
theorem He.lt(h:He T e wb mb ds sl kp a c l w f)(d:Gb wb mb a b):b<w.heap.size:=by
 rcases d with rfl|rfl|d
 · exact h.blk.lt
 · obtain⟨_,D,_⟩:=h.map;exact D.lt
 · exact h.row.lt d
theorem He.app(h:He T e wb mb ds sl kp a c l w f)(F:Ii w f w' f')(G:BX w' e 1 a' c' (l.length+1) (l.map S++[S x]))(d:Fj a w a' w'):He T e wb mb ds sl kp a' c' (l++[x]) w' f' where
 blk:=h.blk.grow d (λe=>h.ne.2.1 e.symm)
 map:=let ⟨es,D,J,K⟩:=h.map;⟨es,D.heap (d.block mb D.lt (λe=>h.ne.2.2 e.symm)),G8.mono F _ _ J,K⟩
 row:=by simpa using G
 ne:=⟨h.ne.1,λe=>d.own.elim (λo=>h.ne.2.1 (o.symm.trans e)) (λo=>absurd h.blk.lt (by rw[← Option.some.inj (o.symm.trans e)];exact Nat.lt_irrefl _)),λe=>d.own.elim (λo=>h.ne.2.2 (o.symm.trans e)) (λo=>absurd (h.lt (.inr (.inl C))) (by rw[← Option.some.inj (o.symm.trans e)];exact Nat.lt_irrefl _))⟩
theorem He.store(h:He T e wb mb ds sl kp a c l w f)(D:Ii w f w' f')(d:GG wb w w')(F:AM w' wb [.map (some mb),sl',kp'] T):He T e wb mb ds sl' kp' a c l w' f' where
 blk:=F
 map:=let ⟨es,G,J,K⟩:=h.map;⟨es,G.heap (d.block mb (λe=>h.ne.1 e.symm)),G8.mono D _ _ J,K⟩
 row:=BX.chgB h.row d h.ne.2.1
 ne:=h.ne
end
variable {b:Nat}
theorem Gb.or{wb mb:Nat}{a a':oA}(h:Gb wb mb a' b):Gb wb mb a b∨rb a'=some b:=h.elim (λh=>.inl (.inl h)) λh=>h.elim (λh=>.inl (.inr (.inl h))) .inr
abbrev MS(T e:tI)(wb mb:Nat)(ds:List (lU×Nd))(s:GP)(a:oA)(c:Nat):wO→Fq→Prop:=He T e wb mb ds (.slice a s.met.length c) (.bool s.keeps) a c s.met
def Nd.cap:Nd→Nat
 |.nil=>0
 |.cons _ _ _ tx _ k r=>tx.length+8+k.cap+r.cap
theorem Nd.cap_le:∀k:Nd,k.txb→k.cap≤100008*k.size
 |.nil,_=>Nat.zero_le _
 |.cons _ _ _ tx _ k r,h=>by
   have d:=Nd.cap_le k h.2.1;have D:=Nd.cap_le r h.2.2;have F:=h.1;simp only[Nd.cap,Nd.size];omega
end Go.SP
namespace Go.SW
open Go.RowKit Go.SP
section
variable{P:Program}{n:Nat}{Q:AX}{ds:List Deferred}{X:Cx}{R:List RB}{B:List FB}{Fs:List (wO→Fq→Prop)}{fs:List Fr}{σ:Bf}{H:List HB}{k:KX}{na:oA}{i c:Nat}
theorem msg{l:List lU}{v:lU}(j:Nat)(d:nth Fs j=some (λw f=>IS w f l na c))(D:l[i]?=some v)
   (h:∀x:Nat×Nat,na=some ⟨x.1,x.2,none⟩→A3 P n Q ds X R (⟨x.1,x.2+i*1,[S v]⟩::B) Fs k fs σ H):A3 P n Q ds X R B Fs k fs σ H :=
 KU (α:=Nat×Nat) (λx=>na=some ⟨x.1,x.2,none⟩) (λ_=>[_]) (λ_=>[]) (λ_ _ F=>let ⟨b,off,G,J⟩:=IS.get (F.fn d) D;⟨(b,off),G,oE J,nE⟩) (λ_=>Aw.mem tQ) h
end
end Go.SW
namespace Go.SP
open Go.SW Go.RowKit
theorem Rz{x:lU}:∀{l:List lU}{i:Nat},(l.take i).contains x=false→l[i]?=some x→Ji l x=i
 |a::l,0,_,h=>by
   simp only[List.getElem?_cons_zero,Option.some.injEq] at h;subst h;unfold Ji;rw[if_pos (by simp)];rfl
 |a::l,i+1,d,h=>by
   rw[List.take_succ_cons,List.contains_cons,Bool.or_eq_false_iff] at d;have D:=Rz d.2 (by simpa using h);unfold Ji;rw[if_neg (by intro e;have:=beq_iff_eq.1 e;subst this;simp at d),D];simp only;rw[if_neg (by omega)];omega
theorem N1{x:lU}:∀{l:List lU},l.contains x=false→Ji l x = -1
 | [],_=>rfl
 |a::l,h=>by
   rw[List.contains_cons,Bool.or_eq_false_iff] at h;unfold Ji;rw[if_neg (by intro e;have:=beq_iff_eq.1 e;subst this;simp at h),N1 h.2];rfl
theorem Tt(l:List lU)(x:lU) : -1≤Ji l x∧Ji l x<l.length∧(decide (0≤Ji l x)=l.contains x):=by
 cases h:l.contains x with
 |false=>rw[N1 h];exact⟨Int.le_refl _,oM,C⟩
 |true =>
   have d:∃i,l[i]?=some x∧(l.take i).contains x=false:=by
     induction l with
     |nil=>cases h
     |cons a l F =>
       by_cases e:x=a
       · exact⟨0,by rw[e];rfl,C⟩
       · rw[List.contains_cons,show (x==a)=false by simpa using e,Bool.false_or] at h
         obtain⟨i,d,D⟩:=F h;exact⟨i+1,by simpa using d,by rw[List.take_succ_cons,List.contains_cons,show (x==a)=false by simpa using e,D];rfl⟩
   obtain⟨i,d,D⟩:=d;rw[Rz D d];have:=(List.getElem?_eq_some_iff.1 d).1;exact⟨oM,oM,by simp⟩
theorem WW(n:Int):(Utf8.encode n).data.toList.length≤4:=by
 unfold Utf8.encode;generalize (if Utf8.valid n=true then n.toNat else Utf8.runeError)=c
 by_cases d:c<0x80
 · simp[d]
 · by_cases h:c<0x800
   · simp[d,h]
   · by_cases D:c<0x10000
     · simp[d,h,D]
     · simp[d,h,D]
theorem TD(vs:List lU)(x:lU):(YL vs x).length≤5:=by
 unfold YL;have:=WW (97+Ji vs x);simp only[List.length_cons];omega
theorem Fj.fle{a a':oA}{w w':wO}{f:Fq}(d:Fj a w a' w')(D:Vl w f)(F:∀b,rb a=some b→f b=0):Ii w f w' f:=λb=>⟨Nat.le_refl _,λo G=>by
 have J:b<w.heap.size:=by
   rcases Nat.lt_or_ge b w.heap.size with h|h
   · exact h
   · have:=D b h;omega
 exact Dz (d.block b J (λe=>by rw[F b e.symm] at G;omega)) o⟩
variable {b:Nat}
theorem LI{w w':wO}{f:Fq}(d:GG b w w')(h:f b=0):Ii w f w' f:=λk=>⟨Nat.le_refl _,λo D=>Dz (d.block k (λe=>by rw[e,h] at D;omega)) o⟩
theorem O8(dn:lU→Bool)(tx:lU)(s:GP):(B1 dn tx s).met.length≤s.met.length+1:=by
 unfold B1;simp only
 split <;> simp
theorem EC(dn:lU→Bool)(vs:List lU):∀(k:Nd)(s:GP),(allS dn vs k s).1.length≤k.cap∧(allS dn vs k s).2.met.length≤s.met.length+k.size
 |.nil,s=>⟨Nat.le_refl _,Nat.le_refl _⟩
 |.cons op ln co tx nm k r,s=>by
   have h:=TD vs tx;have hm:=O8 dn tx s;have D:=EC dn vs k (B1 dn tx s);unfold allS;simp only
   split
   · have d:=EC dn vs r s
     simp only[List.length_cons,List.length_append,Nd.cap,Nd.size] at d ⊢;omega
   · split
     · have d:=EC dn vs r (B1 dn tx s)
       simp only[List.length_cons,List.length_append,Nd.cap,Nd.size] at d ⊢;omega
     · have d:=EC dn vs r (allS dn vs k (B1 dn tx s)).2
       simp only[List.length_cons,List.length_append,List.length_nil,Nd.cap,Nd.size] at d ⊢;omega
theorem PM(dn:lU→Bool)(vs:List lU)(op ln co nm:Int)(tx:lU)(k r:Nd)(s:GP):allS dn vs (.cons op ln co tx nm k r) s=(32::((CR dn vs op tx k s).1++(allS dn vs r (CR dn vs op tx k s).2).1),(allS dn vs r (CR dn vs op tx k s).2).2):=by
 unfold CR
 conv=>lhs;unfold allS
end Go.SP
namespace Go.SP
open Go.SW Go.RowKit
theorem mK{n:Int}(h : -2147483648≤n∧n<2147483648):IntKind.i32.wrap n=n:=by
 unfold IntKind.wrap;simp[IntKind.bits,IntKind.signed];omega
theorem xJ(n:Int):Utf8.encode n=⟨(Utf8.encode n).data.toList.toArray⟩:=by simp
def W7(P:Program)(d:FuncId)(T e:tI)(m:Nat):Prop:=∀(w:wO)(f:Fq)(_:Vl w f)(wb mb:Nat)(ds:List (lU×Nd))(s:GP)(oa:oA)(oc:Nat),MS T e wb mb ds s oa oc w f→(∀b,Gb wb mb oa b→f b=0)→∀(op ln co nm:Int)(tx:lU)(k:Nd)(na:oA)(nc:Nat)(vs:List lU)(va:oA)(vc:Nat),
 k.size<m→k.size≤200000→tx.length≤100000→k.txb→s.met.length+k.size+1≤1000000→vs.length≤1000000→AH w f k na nc→IS w f vs va vc →
 Bq P d #[.pointer (some ⟨wb,0,none⟩),.agg #[.int .i64 op,.int .i64 ln,.int .i64 co,S tx,.int .i64 nm,.slice na k.len nc],.slice va vs.length vc] w (KB (α:=oA×Nat) (λ_=>S (CR (Be ds) vs op tx k s).1) (λ_=>True) (Gb wb mb oa) (λx=>Gb wb mb x.1) (λx=>MS T e wb mb ds (CR (Be ds) vs op tx k s).2 x.1 x.2) (λ_=>[]) w f)
def Aa7(P:Program)(d:FuncId)(T e:tI)(m:Nat):Prop:=∀(w:wO)(f:Fq)(_:Vl w f)(wb mb:Nat)(ds:List (lU×Nd))(s:GP)(oa:oA)(oc:Nat),MS T e wb mb ds s oa oc w f→(∀b,Gb wb mb oa b→f b=0)→∀(k:Nd)(na:oA)(nc:Nat)(vs:List lU)(va:oA)(vc:Nat),
 k.size≤m→k.size≤200000→k.txb→s.met.length+k.size≤1000000→vs.length≤1000000→AH w f k na nc→IS w f vs va vc →
 Bq P d #[.pointer (some ⟨wb,0,none⟩),.slice na k.len nc,.slice va vs.length vc] w (KB (α:=oA×Nat) (λ_=>S (allS (Be ds) vs k s).1) (λ_=>True) (Gb wb mb oa) (λx=>Gb wb mb x.1) (λx=>MS T e wb mb ds (allS (Be ds) vs k s).2 x.1 x.2) (λ_=>[]) w f)
end Go.SP
namespace Go.SP
theorem Qr(dn:lU→Bool)(vs:List lU)(op:Int)(tx:lU)(k:Nd)(s:GP):(CR dn vs op tx k s).1.length≤tx.length+7+k.cap∧(CR dn vs op tx k s).2.met.length≤s.met.length+k.size+1:=by
 have d:=TD vs tx;have hm:=O8 dn tx s;have h:=EC dn vs k (B1 dn tx s);unfold CR
 split
 · simp only;omega
 · split
   · simp only;omega
   · simp only[List.length_append,List.length_cons,List.length_nil];omega
end Go.SP
namespace Go.SP
open Go.SW Go.RowKit
variable {co ln nm:Int}{m:Nat}{r:Nd}{lo:Operand}{ty:tI}{dn:lU→Bool}
theorem YC{op:Int}{tx:lU}{k:Nd}(h:(op==31)=true):Ct (.cons op ln co tx nm k r)=(tx::(Ct r).1,.cons op ln co tx nm k (Ct r).2.1,(Ct r).2.2):=by
 rw[Ct,if_pos h]
theorem Zi{op:Int}{tx:lU}{k:Nd}(h:(op==31)=false):Ct (.cons op ln co tx nm k r)=([],.nil,.cons op ln co tx nm k r):=by
 rw[Ct,if_neg (by rw[h];decide)]
theorem L0:∀l:List lU,FH l=Lib.join l [44]
 | []=>rfl
 | [a]=>by rw[Lib.join_cons];simp[FH,Lib.joinTail]
 |a::b::l=>by rw[FH,L0 (b::l),Lib.join_cons,Lib.join_cons];simp[Lib.joinTail]
theorem VI(l:List lU)(x:lU):(FH (l++[x])).length≤(FH l).length+1+x.length:=by
 cases l with
 |nil=>show x.length≤_;omega
 |cons a l =>
   rw[List.cons_append,L0,L0,Lib.join_cons,Lib.join_cons,ND];simp only[List.length_append,List.length_cons,List.length_nil];omega
theorem OL(dn:lU→Bool)(vs:List lU)(op ln co nm:Int)(tx:lU)(k r:Nd)(s:GP):Ed dn vs (.cons op ln co tx nm k r) s=((tx++(allS dn vs k s).1)::(Ed dn vs r (allS dn vs k s).2).1,(Ed dn vs r (allS dn vs k s).2).2):=rfl
theorem ZJ{tx:lU}{k u:Nd}{s s2:GP}{vs cs:List lU}(d:Ct k=(vs,u,r))(h:Ed dn vs r s=(cs,s2)):ET dn tx k s=([124]++tx++(allS dn vs u s2).1++[61]++FH cs,(allS dn vs u s2).2):=by
 unfold ET;rw[d];simp only;rw[h]
theorem RW:∀(x y:Nd),(x.app y).cap=x.cap+y.cap
 |.nil,y=>by show y.cap=0+_;omega
 |.cons _ _ _ _ _ _ r,y=>by
   have:=RW r y;show _+_+(r.app y).cap=_+_+r.cap+y.cap;omega
theorem bQ:∀(x y:Nd),(x.app y).txb→x.txb∧y.txb
 |.nil,_,h=>⟨tQ,h⟩
 |.cons _ _ _ _ _ _ r,y,h=>⟨⟨h.1,h.2.1,(bQ r y h.2.2).1⟩,(bQ r y h.2.2).2⟩
def frA(a:oA)(c i:Nat):oA:=if c=i then a else a.map (·.add (i*6))
theorem P3.drop{w:wO}{f:Fq}:∀(u r:Nd)(b off:Nat),P3 w f (u.app r) b off→P3 w f r b (off+u.len*6)
 |.nil,r,b,off,h=>by show P3 w f r b (off+0*6);rw[Nat.zero_mul];exact h
 |.cons _ _ _ _ _ _ x,r,b,off,h=>by
   have:=P3.drop x r b _ h.2;rw[show off+(Nd.cons _ _ _ _ _ _ x).len*6=off+6+x.len*6 by simp only[Nd.len];omega];exact this
theorem AH.drop{w:wO}{f:Fq}{u:Nd}{a:oA}{c i:Nat}(h:AH w f (u.app r) a c)(hu:u.len=i):AH w f r (frA a c i) (c-i):=by
 have G:=Nd.app_len u r;refine⟨by have:=h.1;omega,?_⟩;rcases h.2 with e|⟨b,off,d,D⟩
 · exact .inl (by cases u with|nil=>exact e|cons=>cases e)
 · have F:=P3.drop u r b off D
   unfold frA
   split
   · exact .inl (Nd.len0 (by have:=h.1;omega))
   · exact .inr ⟨b,off+i*6,by rw[d];simp[Addr.add],hu▸F⟩
theorem mG{P:Program}{σ:Bf}{w:wO}{T e:tI}{x:Operand}{i:Nat}{k1:IntKind}{a F:oA}{len cap:Nat}(d:F=frA a cap i)(hm:len=i+m)(G:ev σ x=some (.slice a len cap))(D:ev σ lo=some (.int k1 (i:Int)))(J:Je P T=some (e,6)):AK P σ (.slice T x (some lo) none none) ty w (.slice F m (cap-i)) w:=by
 subst d;have h:=Mi (ty:=ty) (w:=w) G D J (show i≤len by omega);rw[show len-i=m by omega] at h;exact h
abbrev DS:=List (lU×Nd)
def Gd(ds:DS)(s:GP):Prop:=s.met.Nodup∧∀x,x∈s.met→Be ds x=true
structure Rl(ds:DS)(s t:GP):Prop where
 gd:Gd ds s→Gd ds t
 pre:s.met <+: t.met
section
variable{ds:DS}{s t u:GP}{vs:List lU}{op:Int}{tx:lU}
theorem Rl.refl:Rl ds s s:=⟨id,List.prefix_refl _⟩
theorem Rl.trans(d:Rl ds s t)(D:Rl ds t u):Rl ds s u:=⟨λh=>D.gd (d.gd h),d.pre.trans D.pre⟩
theorem Rl.meet:Rl ds s (B1 (Be ds) tx s):=by
 unfold B1
 by_cases d:(Be ds tx&&!s.met.contains tx)=true
 · simp only[d,if_true]
   rw[Bool.and_eq_true,Bool.not_eq_true'] at d;refine⟨λh=>⟨?_,?_⟩,List.prefix_append _ _⟩
   · simp only
     rw[List.nodup_append];refine⟨h.1,by simp,λa G b F e=>?_⟩;rw[List.mem_singleton] at F;subst e F;rw[List.contains_iff_mem.2 G] at d;exact absurd d.2 dC
   · intro x D
     rcases List.mem_append.1 D with D|D
     · exact h.2 x D
     · rw[List.mem_singleton.1 D];exact d.1
 · simp only[d]
   exact⟨id,List.prefix_refl _⟩
theorem Rl.all:∀(k:Nd)(s:GP),Rl ds s (allS (Be ds) vs k s).2
 |.nil,_=>.refl
 |.cons op ln co tx nm k r,s=>by
   rw[PM];refine .trans ?_ (Rl.all r _);unfold CR
   split
   · exact .refl
   · split
     · exact .meet
     · exact .trans .meet (Rl.all k _)
theorem Rl.text{k:Nd}:Rl ds s (CR (Be ds) vs op tx k s).2:=by
 unfold CR
 split
 · exact .refl
 · split
   · exact .meet
   · exact .trans .meet (Rl.all k _)
theorem Rl.cons:∀(k:Nd)(s:GP),Rl ds s (Ed (Be ds) vs k s).2
 |.nil,_=>.refl
 |.cons _ _ _ _ _ k r,s=>.trans (Rl.all k s) (Rl.cons r _)
theorem Rl.data{k:Nd}:Rl ds s (ET (Be ds) tx k s).2:=.trans (Rl.cons _ _) (Rl.all _ _)
end
theorem MO:∀k:Nd,k=(Ct k).2.1.app (Ct k).2.2
 |.nil=>rfl
 |.cons op ln co tx nm k r=>by
   rw[Ct]
   split
   · show _=Nd.cons op ln co tx nm k ((Ct r).2.1.app (Ct r).2.2)
     rw[← MO r]
   · rfl
theorem Q8(dn:lU→Bool)(vs:List lU):∀(k:Nd)(s:GP),(FH (Ed dn vs k s).1).length≤k.cap
 |.nil,s=>Nat.le_refl _
 |.cons op ln co tx nm k r,s=>by
   have h:=(EC dn vs k s).1;have d:=Q8 dn vs r (allS dn vs k s).2;rw[OL];show (FH ((tx++(allS dn vs k s).1)::(Ed dn vs r (allS dn vs k s).2).1)).length≤tx.length+8+k.cap+r.cap;generalize (Ed dn vs r (allS dn vs k s).2).1=l at d
   cases l with
   |nil=>simp only[FH,List.length_append];omega
   |cons a l=>simp only[FH,List.length_append,List.length_cons] at d ⊢;omega
theorem Ze(dn:lU→Bool)(tx:lU)(k:Nd)(s:GP):(ET dn tx k s).1.length≤k.cap+tx.length+2:=by
 have d:=Q8 dn (Ct k).1 (Ct k).2.2 s;have h:=(EC dn (Ct k).1 (Ct k).2.1 (Ed dn (Ct k).1 (Ct k).2.2 s).2).1;have D:k.cap=(Ct k).2.1.cap+(Ct k).2.2.cap:=by rw[← RW,← MO]
 unfold ET;simp only[List.length_append,List.length_cons,List.length_nil];omega
def wD(φ:lU→Nd→Nat)(ds:DS)(x:lU):Nat:=match AD ds x with|some k=>φ x k|none=>0
theorem Q5(g:lU→Nat)(n:lU):∀l:List lU,l.Nodup→(l.map g).sum≤g n+((l.filter (· != n)).map g).sum
 | [],_=>Nat.zero_le _
 |a::l,h=>by
   have D:=Q5 g n l (List.nodup_cons.1 h).2
   by_cases e:a=n
   · subst e
     have:(a::l).filter (· != a)=l:=by
       rw[List.filter_cons_of_neg (by simp),List.filter_eq_self];intro x d;have:x≠a:=λe=>(List.nodup_cons.1 h).1 (e▸d);simpa using this
     rw[this];simp
   · rw[List.filter_cons_of_pos (by simpa using e)]
     simp only[List.map_cons,List.sum_cons];omega
theorem Ut{α:Type}{n x:lU}{v:α}{l:List (lU×α)}(h:x≠n):AD ((n,v)::l) x=AD l x:=by
 rw[Eb,if_neg (by simpa using λe:n=x=>h e.symm)]
theorem Vt(φ:lU→Nd→Nat):∀(ds:DS)(l:List lU),l.Nodup→(∀x,x∈l→Be ds x=true)→(l.map (wD φ ds)).sum≤(ds.map λp=>φ p.1 p.2).sum
 | [],l,_,h=>by
   cases l with
   |nil=>exact Nat.le_refl _
   |cons a l=>have:=h a (.head _);cases this
 |(n,k)::ds,l,G,h=>by
   have J:=Q5 (wD φ ((n,k)::ds)) n l G
   have K:(l.filter (· != n)).map (wD φ ((n,k)::ds))=(l.filter (· != n)).map (wD φ ds):=List.map_congr_left λx D=>by
     have:x≠n:=by simpa using (List.mem_filter.1 D).2
     unfold wD;rw[Ut this]
   have L:=Vt φ ds (l.filter (· != n)) (List.Sublist.nodup List.filter_sublist G) λx D=>by
     have d:=List.mem_filter.1 D;have F:=h x d.1;have e:x≠n:=by simpa using d.2
     unfold Be at F ⊢;rw[Ut e] at F;exact F
   have O:wD φ ((n,k)::ds) n=φ n k:=by unfold wD;rw[Eb,if_pos (by simp)]
   rw[K] at J;simp only[List.map_cons,List.sum_cons];omega
def jC(x:lU)(k:Nd):Nat:=k.cap+x.length+2
theorem Sm{α:Type}:∀l:List α,(l.map λ_=>1).sum=l.length
 | []=>rfl
 |a::l=>by simp only[List.map_cons,List.sum_cons,List.length_cons,Sm l];omega
theorem WO{ds:DS}{s:GP}(h:Gd ds s):s.met.length≤ds.length:=by
 have d:=Vt (λ_ _=>1) ds s.met h.1 h.2
 have D:s.met.map (wD (λ_ _=>1) ds)=s.met.map λ_=>1:=List.map_congr_left λx F=>by
   have:=h.2 x F;unfold wD;unfold Be at this
   cases G:AD ds x with
   |none=>rw[G] at this;cases this
   |some k=>rfl
 rw[D,Sm] at d;have:=Sm ds;omega
theorem ZS{ds:DS}{s:GP}(h:Gd ds s)(i:Nat):((s.met.take i).map (wD jC ds)).sum≤(ds.map λp=>jC p.1 p.2).sum :=
 Vt jC ds _ (List.Sublist.nodup (List.take_sublist _ _) h.1) λx d=>h.2 x (List.mem_of_mem_take d)
variable {i mb:Nat}{M:Nat→Prop}{dx:Nd}{a:oA}{e:tI}
theorem Y3{ds:DS}{t d:lU}{s:GP}(h:s.met[i]?=some d)(hd:AD ds d=some dx)(D:i<ds.length) :
   HN ds (ds.length+1-i) i t s=HN ds (ds.length+1-(i+1)) (i+1) (t++(ET (Be ds) d dx s).1) (ET (Be ds) d dx s).2:=by
 rw[show ds.length+1-i=(ds.length+1-(i+1))+1 by omega,HN,h];simp only[hd,Option.getD_some]
theorem iO{ds:DS}{t:lU}{s:GP}(d:s.met.length≤i)(h:i≤ds.length):HN ds (ds.length+1-i) i t s=(t,s):=by
 rw[show ds.length+1-i=(ds.length-i)+1 by omega,HN,List.getElem?_eq_none d]
theorem aC{ds:DS}{T:Nat}{t d:lU}{s:GP}(h:s.met[i]?=some d)(hd:AD ds d=some dx)(D:t.length≤T+((s.met.take i).map (wD jC ds)).sum) :
   (t++(ET (Be ds) d dx s).1).length≤T+(((ET (Be ds) d dx s).2.met.take (i+1)).map (wD jC ds)).sum:=by
 obtain⟨z,hz⟩:=(Rl.data (ds:=ds) (s:=s) (tx:=d) (k:=dx)).pre;have F:=(List.getElem?_eq_some_iff.1 h).1;have G:=Ze (Be ds) d dx s;have hw:wD jC ds d=dx.cap+d.length+2:=by unfold wD;rw[hd];rfl
 rw[← hz,List.take_append_of_le_length (by omega),List.take_add_one,h];simp only[List.map_append,List.sum_append,Option.toList_some,List.map_cons,List.map_nil,List.sum_cons,List.sum_nil,List.length_append];omega
theorem Mu{α:Type}{n:lU}{v:α}:∀{l:List (lU×α)},AD l n=some v→(n,v)∈l
 |(k,x)::l,h=>by
   rw[Eb] at h
   split at h
   · rename_i e;cases h;rw[eq_of_beq e];exact .head _
   · exact .tail _ (Mu h)
theorem OF:∀{nds:Nd}{p:lU×Nd},p∈C1 nds→nds.txb→p.2.size+1≤nds.size∧p.1.length≤100000∧p.2.txb
 |.cons op ln co tx nm k r,p,h,d=>by
   have D:p∈C1 r→p.2.size+1≤k.size+r.size+1∧p.1.length≤100000∧p.2.txb:=λh=>by
     have:=OF h d.2.2;exact⟨oM,this.2⟩
   show p.2.size+1≤k.size+r.size+1∧_;rw[C1] at h
   split at h
   · rcases List.mem_append.1 h with h|h
     · exact D h
     · rw[List.mem_singleton.1 h]
       exact⟨by simp only;omega,d.1,d.2.1⟩
   · exact D h
theorem NY:∀nds:Nd,((C1 nds).map λp=>jC p.1 p.2).sum≤nds.cap∧(C1 nds).length≤nds.len
 |.nil=>⟨Nat.le_refl _,Nat.le_refl _⟩
 |.cons op ln co tx nm k r=>by
   have h:=NY r;rw[C1];show _≤tx.length+8+k.cap+r.cap∧_≤r.len+1
   split
   · simp only[List.map_append,List.sum_append,List.map_cons,List.map_nil,List.sum_cons,List.sum_nil,jC,List.length_append,List.length_cons,List.length_nil] at h ⊢;omega
   · omega
theorem Wq{a b:DS}{tx:lU}{k:Nd}(h:((a++(tx,k)::b).map (·.1)).Nodup):AD b tx=none:=by
 rw[List.map_append,List.nodup_append] at h;have d:=(List.nodup_cons.1 h.2.1).1
 cases D:AD b tx with
 |none=>rfl
 |some v=>exact absurd (List.mem_map.2 ⟨_,Mu D,C⟩) d
def RD:Nd→Prop
 |.nil=>True
 |.cons op _ _ _ _ k r=>(op=43→k≠.nil)∧RD r
section
variable{ds:DS}{op ln co nm o l c m:Int}{tx x:lU}{k r k1 q:Nd}{out:List (lU×lU)}{w:lU×GP}
theorem ZL(h:(op==43)=false):Re ds (.cons op ln co tx nm k r) out=Re ds r out:=by cases k <;> (conv=>lhs;unfold Re;rw[if_neg (by rw[h];decide)])
theorem ZV(h:(op==43)=true)(d:((out.length:Int)==100)=true):Re ds (.cons op ln co tx nm k r) out=.error (ln,co,4):=by cases k <;> (unfold Re;rw[if_pos h,if_pos d])
theorem NF(h:(op==43)=true)(d:((out.length:Int)==100)=false)(hw:Kx ds o x k1=w):Re ds (.cons op ln co tx nm (.cons o l c x m k1 q) r) out=if !w.2.keeps then .error (l,c,17) else if w.1.length>1000 then .error (l,c,4) else Re ds r (out++[(tx,w.1)]):=by
 rw[Re,if_pos h,if_neg (by rw[d];decide)];simp only[hw]
theorem gI(h:(op==43)=true)(d:((out.length:Int)==100)=false)(hw:Kx ds o x k1=w)(D:(!w.2.keeps)=true):Re ds (.cons op ln co tx nm (.cons o l c x m k1 q) r) out=.error (l,c,17):=by
 rw[NF h d hw,if_pos D]
theorem lW(h:(op==43)=true)(d:((out.length:Int)==100)=false)(hw:Kx ds o x k1=w)(D:(!w.2.keeps)=false)(F:1000<w.1.length):Re ds (.cons op ln co tx nm (.cons o l c x m k1 q) r) out=.error (l,c,4):=by
 rw[NF h d hw,if_neg (by rw[D];decide),if_pos F]
theorem wW(h:(op==43)=true)(d:((out.length:Int)==100)=false)(hw:Kx ds o x k1=w)(D:(!w.2.keeps)=false)(F:w.1.length≤1000):Re ds (.cons op ln co tx nm (.cons o l c x m k1 q) r) out=Re ds r (out++[(tx,w.1)]):=by
 rw[NF h d hw,if_neg (by rw[D];decide),if_neg oM]
end
def iX(mb:Nat)(ds:DS)(w:wO)(f:Fq):Prop:=∃es,BM BQ w mb es∧G8 w f ds es∧Jp es
theorem iX.stab{ds:DS}(hm:M mb):FD M (iX mb ds):=λ_ _ _ _ ⟨es,d,h,D⟩ F G=>⟨es,d.heap (G mb hm),G8.mono F _ _ h,D⟩
theorem aV{w:wO}{c:Nat}{l:List lU}(h:BX w e 1 a c l.length (l.map S)){x:lU}(D:l[i]?=some x):∃b q,a=some ⟨b,0,none⟩∧AM w b q e∧q[i]?=some (S x):=by
 have L:=(List.getElem?_eq_some_iff.1 D).1;rcases h.2 with ⟨_,_,hz⟩|⟨b,q,F,G,J,_,O,K⟩
 · omega
 · refine⟨b,q,F,G,?_⟩
   have d:(q.take (l.length*1))[i]?=some (S x):=by rw[K,List.getElem?_map,D];rfl
   rw[List.getElem?_take] at d
   split at d
   · exact d
   · cases d
end Go.SP
namespace Go.SW
variable {Q:AX}{σ:Bf}{X:Cx}{Fs:List (wO→Fq→Prop)}{B:List FB}{fs:List Fr}{H:List HB}{n:Nat}{P:Program}
theorem mxx{ds:List Deferred}{R:List RB}{k:KX}(MI':Nat→Prop)(I':wO→Fq→Prop)(F:∀b,MI' b→X.MI b)(G:∀w f,X.I w f→I' w f)(J:FD MI' I')
   (h:A3 P n Q ds {X with MI:=MI',I:=I' } R B Fs k fs σ H):A3 P n Q ds X R B Fs k fs σ H:=λw f d =>
 h w f {d with res:=G w f d.res,stab:=J,mi:=λb D=>d.mi b (F b D),own:=λb D=>let ⟨x,y,z⟩:=d.own b D;⟨x,y,λh=>z (F b h)⟩}
end Go.SW
namespace Go.SP
open Go.SW Go.RowKit
variable {σ:Bf}{b i:Nat}{P:Program}{T e ty:tI}
theorem eH{w:wO}{x:Operand}{k c:Nat}{l:List lU}{s:lU}(d:ev σ x=some (.pointer (some ⟨b,0+i*1,none⟩)))(h:AP P T=some (false,k))(D:BX w e 1 (some ⟨b,0,none⟩) c l.length (l.map S))(F:l[i]?=some s):AK P σ (.load T x) ty w (S s) w:=by
 obtain⟨L,q,G,J,K⟩:=aV D F
 cases G
 exact Ai d h J (by rw[Nat.zero_add,Nat.mul_one];exact K)
theorem mQ{k:Nd}(h:k≠.nil):∃op ln co tx nm k1 r,k=.cons op ln co tx nm k1 r:=by
 cases k with
 |nil=>exact absurd C h
 |cons op ln co tx nm k1 r=>exact⟨_,_,_,_,_,_,_,C⟩
theorem Gd.nil{ds:DS}{b:Bool}:Gd ds ⟨[],b⟩:=⟨List.nodup_nil,λ_ h=>by cases h⟩
end Go.SP
namespace Go.SP
variable {s:CS}{co ln:Int}{k:Nd}
theorem Wp{s1:CS}{e G:Ba}{op:Int}{tx:lU}{b:Option (lU×T1)}(h:Ds s e op ln co tx k=.ok (b,G,s1)) :
   if op==41 then AD s.datas tx=none∧∃q,s1.datas=(tx,q)::s.datas else s1.datas=s.datas:=by
 unfold Ds at h
 split at h
 · rename_i D
   rw[if_pos D]
   split at h
   · cases h
   · rename_i s2 hd
     cases h
     unfold FJ at hd
     split at hd
     · cases hd
     · rename_i F
       rw[Bool.or_eq_true,not_or] at F
       split at hd
       · cases hd
       · simp only at hd
         split at hd
         · cases hd
         · cases hd
           exact⟨by cases J:AD s.datas tx with|none=>rfl|some v=>rw[J] at F;exact absurd C F.1,_,C⟩
 · rename_i D
   rw[if_neg D]
   split at h
   · cases h;rfl
   · split at h
     · split at h
       · cases h
       · split at h
         · cases h
         · split at h
           · cases h;rfl
           · split at h
             · cases h
             · rename_i d
               split at h
               · cases h
               · rename_i K
                 cases h
                 exact (EG.has K).2.1.trans (GS EG _ d).2.1
     · split at h
       · split at h
         · cases h
         · rename_i d
           split at h
           · cases h
           · cases h
             exact (GS EG _ d).2.1
       · split at h
         · split at h
           · cases h
           · rename_i d
             split at h
             · cases h
             · cases h
               exact (QV EG (GS EG _) d).2.1
         · split at h
           · cases h
           · rename_i d
             cases h
             exact (GS EG _ d).2.1
theorem Og:∀(nds:Nd){s:CS}{e:Ba}{out:List (lU×T1)}{r:List (lU×T1)×CS},DQ s e nds out=.ok r→(∀p,p∈C1 nds→AD s.datas p.1=none)∧((C1 nds).map (·.1)).Nodup
 |.nil,_,_,_,_,_=>⟨(λ_ h=>by cases h),List.nodup_nil⟩
 |.cons op ln co tx nm k r,s,e,out,q,h=>by
   rw[DQ] at h
   have key:∀{b:Option (lU×T1)}{L:Ba}{s1:CS}{D:List (lU×T1)},Ds s e op ln co tx k=.ok (b,L,s1)→DQ s1 L r D=.ok q→(∀p,p∈C1 (.cons op ln co tx nm k r)→AD s.datas p.1=none)∧((C1 (.cons op ln co tx nm k r)).map (·.1)).Nodup:=by
     intro b L s1 D G U;have hd:=Wp G;have J:=Og r U;rw[C1]
     split at hd
     · rename_i F
       rw[if_pos F];obtain⟨Y,v,Z⟩:=hd
       have Q:∀p,p∈C1 r→AD s.datas p.1=none∧p.1≠tx:=λp d=>by
         have K:=J.1 p d;rw[Z,Eb] at K
         split at K
         · cases K
         · rename_i h6
           exact⟨K,λe=>h6 (by rw[e];simp)⟩
       refine⟨λp d=>?_,?_⟩
       · rcases List.mem_append.1 d with d|d
         · exact (Q p d).1
         · rw[List.mem_singleton.1 d];exact Y
       · rw[List.map_append,List.nodup_append]
         refine⟨J.2,by simp,λa ha b O e=>?_⟩;obtain⟨p,d,rfl⟩:=List.mem_map.1 ha;have O:b=tx:=by simpa using O
         exact (Q p d).2 (e.trans O)
     · rename_i F
       rw[if_neg F];rw[hd] at J;exact J
   split at h
   · cases h
   · rename_i G;exact key G h
   · rename_i G;exact key G h
theorem Yu{nds:Nd}{d:List (lU×lU)}(h:C3 nds=.ok d):((C1 nds).map (·.1)).Nodup:=by
 unfold C3 at h
 split at h
 · cases h
 · rename_i D;exact (Og nds D).2
theorem Tq:∀{nds:Nd},nds.wft→RD nds
 |.nil,_=>trivial
 |.cons op ln co tx nm k r,⟨d,D⟩=>by
   refine⟨λe=>?_,Tq D⟩;rcases d with h|⟨_,h⟩|⟨h,_⟩
   · omega
   · obtain⟨_,_,_,_,_,_,_,rfl⟩:=C7 h dC
     exact λh=>by cases h
   · omega
end Go.SP
namespace Go.Proofs.YtelmolopaolbcaaGreatDoor
open Go.SW Go.SP Go.RowKit Go.Proofs.Tryz
theorem Uw(w:wO)(f:Fq)(Q:Vl w f)(l:List lU)(a:oA)(c:Nat)(n:lU)(hl:l.length≤1000000)(U:IS w f l a c) :
   Bq prog 70 #[.slice a l.length c,S n] w (B3 (α:=Unit) (λ_=>.int .i64 (Ji l n)) (λ_=>True) (λ_=>[]) w f):=by
 refine Cw (X:=X0 w f) (H:=[]) (R:=[]) (B:=[]) (Fs:=[λw f=>IS w f l a c]) (f:=f) func70 C C C (Ci Q ⟨U,tQ⟩ ⟨IS.mono,tQ⟩)<|Aa 14 [] (λ_=>?_);refine FG (α:=Nat) (λi=>l.length-i) (λi=>i≤l.length∧(l.take i).contains n=false) (λi=>(E4 0 (.slice a l.length c) 1 (S n) 7 (.int .i64 (l.length:Int)) 8 (.int .i64 (i:Int)))) (λi=>X0 w f) (λi=>[]) (λi=>[]) (λi=>[]) (λi=>[λw f=>IS w f l a c]) (0) ⟨oM,C⟩ lE (λw f D=>D) ?_;rintro i ⟨hi,d⟩;refine Aa 6 [] (λ_=>AN 9 C C (λG=>?_) (λG=>?_));refine Aa 12 [] (λ_=>?_);have J:i<l.length:=by have:=dT G;omega
 obtain⟨v0,K⟩:∃v,l[i]?=some v:=⟨_,List.getElem?_eq_getElem J⟩;refine msg 0 C K ?_;rintro⟨b,off⟩ rfl;refine Aa 9 [100,0] (And.intro oM<|y2<|λ_=>AN 16 C C (λL=>?_) (λL=>?_));exact Aa 10 [] (λ_=>Z0<|Aa 2 [] (λ_=>AR (CY C C) (λw f D=>⟨(),f,(by rw[Rz d (by rw[K,show v0=n from (beq_iff_eq.1 L).symm])]),tQ,D.exm,tQ⟩)));refine Aa 8 [] (And.intro ⟨oM,oM⟩<|λ_=>?_);have F:(l.take (i+1)).contains n=false:=by rw[CC K];have Y:¬n=v0:=(by simpa using L);have Z:n∉l.take i:=(by simpa using d);simp[Z,Y]
 exact Df (i+1) (show l.length-(i+1)<l.length-i by omega) ⟨oM,F⟩ lE (λw f D=>⟨_,D.less sR sR nE (λ_ h=>h)⟩);refine Aa 3 [] (λ_=>Fh<|Aa 8 [] (λ_=>?_));have O:l.length≤i:=by have:=dF G;omega
 rw[List.take_of_length_le O] at d;exact AR (CY C C) (λw f D=>⟨(),f,(by rw[N1 d]),tQ,D.exm,tQ⟩)
theorem Qp(w:wO)(l:List lU)(a:oA)(c:Nat)(n:lU)(d:l.length≤1000000)(h:oT w l a c):Bq prog 70 #[.slice a l.length c,S n] w λv w'=>v=.int .i64 (Ji l n)∧AU w w' :=
 (Uw w (Z7 w) (Wi w) l a c n d h.fz).mono λ_ _ ⟨_,_,D,_,F,_⟩=>⟨D,F.stp.ext⟩
theorem Ny(w:wO)(f:Fq)(h:Vl w f)(l:List lU)(a:oA)(c:Nat)(n:lU)(D:l.length≤1000000)(F:IS w f l a c) :
   Bq prog 71 #[.slice a l.length c,S n] w (B3 (α:=Unit) (λ_=>.bool (l.contains n)) (λ_=>True) (λ_=>[]) w f):=by
 exact Cw (X:=X0 w f) (H:=[]) (R:=[]) (B:=[]) (Fs:=[λw f=>IS w f l a c]) (f:=f) func71 C C C (Ci h ⟨F,tQ⟩ ⟨IS.mono,tQ⟩)<|Aa 9 [] (λ_=>Dm C C (eC dG C C) (λw f d=>Qp w l a c n D d.f0.sw)<|Aa 5 [] (λ_=>AR (CY C C) (λw f d=>⟨(),f,(by rw[← (Tt l n).2.2]),tQ,d.exm,tQ⟩)))
theorem Yi(w:wO)(l:List lU)(a:oA)(c:Nat)(n:lU)(d:l.length≤1000000)(h:oT w l a c):Bq prog 71 #[.slice a l.length c,S n] w λv w'=>v=.bool (l.contains n)∧AU w w' :=
 (Ny w (Z7 w) (Wi w) l a c n d h.fz).mono λ_ _ ⟨_,_,D,_,F,_⟩=>⟨D,F.stp.ext⟩
set_option maxHeartbeats 2000000 in
theorem Yk(m:Nat)(ih:Aa7 prog 72 98 9 m)(w:wO)(f:Fq)(hv:Vl w f)(wb mb:Nat)(ds:List (lU×Nd))(s:GP)(oa:oA)(oc:Nat)(hW:MS 98 9 wb mb ds s oa oc w f)(hf:∀b,Gb wb mb oa b→f b=0)(op ln co nm:Int)(tx:lU)(k:Nd)(O:oA)(nc:Nat)(vs:List lU)(va:oA)(vc:Nat)(hm:k.size<m+1)(hsz:k.size≤200000)(htx:tx.length≤100000)(hkx:k.txb)(hml:s.met.length+k.size+1≤1000000)(hvl:vs.length≤1000000)(hN:AH w f k O nc)(hV:IS w f vs va vc) :
   Bq prog 34 #[.pointer (some ⟨wb,0,none⟩),.agg #[.int .i64 op,.int .i64 ln,.int .i64 co,S tx,.int .i64 nm,.slice O k.len nc],.slice va vs.length vc] w (KB (α:=oA×Nat) (λ_=>S (CR (Be ds) vs op tx k s).1) (λ_=>True) (Gb wb mb oa) (λx=>Gb wb mb x.1) (λx=>MS 98 9 wb mb ds (CR (Be ds) vs op tx k s).2 x.1 x.2) (λ_=>[]) w f):=by
 have hkl:=Nd.len_le k;refine Cw (X:=⟨Gb wb mb oa,Gb wb mb oa,MS 98 9 wb mb ds s oa oc,w,f⟩) (H:=[]) (R:=[]) (B:=[]) (Fs:=[λw f=>AH w f k O nc,λw f=>IS w f vs va vc]) (f:=f) func34 C C C (Te (M:=Gb wb mb oa) hv hW He.stab (λb D=>⟨hW.lt D,hf b D⟩) ⟨hN,hV,tQ⟩ ⟨AH.mono,IS.mono,tQ⟩)<|Aa 14 [0] (λb1=>y<|λ_=>AN 11 C C (λJ=>?_) (λJ=>?_));refine Aa 2 [] (λ_=>?_);have hib:=Tt vs tx;have hel:=WW (97+Ji vs tx);exact Aa 4 [0] (y<|λ_=>Dm C C (eC dG C C) (λw f d=>Qp w vs va vc tx hvl d.f1.sw)<|Aa 1 [] (And.intro ⟨oM,oM⟩<|λ_=>Dn C C (λw f d=>BJ (m:=97+Ji vs tx) C WD (mK ⟨oM,oM⟩))<|Dn C C (λw f d=>eO (l:=(Utf8.encode (97+Ji vs tx)).data.toList) C kR (xJ _))<|Aa 6 [] (And.intro lM<|λ_=>AR (CY C C) (λw f d=>⟨(oa,oc),f,(by rw[CR,if_pos J];rfl),tQ,d.exm,(λb D=>let ⟨J,U,Q⟩:=d.mi b D;Q.elim (λh=>.inr ⟨h,J,U⟩) .inl),(by rw[CR,if_pos J];exact d.res),tQ⟩))));refine Aa 5 [] (λ_=>?_);refine Po (α:=Bool) (λx=>x=Be ds tx) (λx=>(E4 0 (.pointer (some ⟨wb,0,none⟩)) 2 (.slice va vs.length vc) 4 (.pointer (some ⟨b1,0,none⟩)) 8 (.bool x))) (λx=>⟨Gb wb mb oa,Gb wb mb oa,MS 98 9 wb mb ds s oa oc,w,f⟩) (λx=>[⟨b1,[.int .i64 op,.int .i64 ln,.int .i64 co,S tx,.int .i64 nm,.slice O k.len nc],74,true⟩]) (λx=>[]) (λx=>[]) (λx=>[λw f=>AH w f k O nc,λw f=>IS w f vs va vc]) ?_ ?_;refine oZ (λes w f=>MS 98 9 wb mb ds s oa oc w f∧BM BQ w mb es∧G8 w f ds es∧Jp es) (λw f h=>let ⟨es,J,U,Q⟩:=h.map;⟨es,h,J,U,Q⟩) (λes w f w' f' h hF D=>⟨He.stab w f w' f' h.1 hF D,h.2.1.heap (D _ (.inr (.inl C))),G8.mono hF _ _ h.2.2.1,h.2.2.2⟩) λes=>Jf (λw f d=>d.res.2.2.2) λhdis=>?_
 cases hdl:AD ds tx with
 |none =>
   refine Jf (λw f d=>(G8.look d.res.2.2.1).1 hdl) λhlk=>LM (λw=>AM w wb [.map (some mb),.slice oa s.met.length oc,.bool s.keeps] 98∧BM BQ w mb es) (λw f h _=>⟨h.1.blk,h.2.1⟩) [0] Al (rd [0,1,2,3,4,5,6,7,8,9] (.br 10 (.br 11 (.rd 12 .fin) .fin) .fin)) C kR kR kR (λ_ _ _ _ _ h=>h)<|A2 3 [] (λ_=>GI C C C (λw hK=>Ai C pE hK.2.2.1 C)<|A2 2 [0] (y<|λ_=>GI C C C (λw hK=>J1 (K:=BQ) (a:=tx) C C Xc Gt fL hK.2.2.2 hdis hlk)<|A2 3 [] (λ_=>Ag C ?_ Aj)));refine Aa 2 [] (λb2=>λ_=>AY [1] (λw f h _=>⟨h.1.blk,h.2.1⟩) C (λ_ h=>h)<|Ag C ?_ Aj);exact Aa 2 [0] (y<|λ_=>AY [1] (λw f h _=>⟨h.1.blk,h.2.1⟩) C (λ_ h=>h)<|A2 1 [] (λ_=>Bm<|IB false (by rw[Be,hdl];rfl) lE (λw1 f1 d=>⟨f1,({d with res:=d.res.1,stab:=He.stab}:AQ ⟨Gb wb mb oa,Gb wb mb oa,MS 98 9 wb mb ds s oa oc,w,f⟩ w1 f1 _ _ _ _).less (sD (sK sZ)) sR nE (λ_ h=>h)⟩)))
 |some dx =>
   refine KU (α:=Int×Int×Int×Int×oA×Nat) (λx=>ER es tx=some (.agg (KW x.1 x.2.1 x.2.2.1 tx x.2.2.2.1 x.2.2.2.2.1 dx.len x.2.2.2.2.2).toArray)) (λx=>[]) (λx=>[]) (λw f d=>let ⟨a1,a2,a3,a4,a5,a6,J,_⟩:=(G8.look d.res.2.2.1).2 dx hdl;⟨(a1,a2,a3,a4,a5,a6),J,nE,nE⟩) (λx _ h=>by cases h) ?_;rintro⟨op2,ln2,co2,nm2,na2,nc2⟩ hlk;refine LM (λw=>AM w wb [.map (some mb),.slice oa s.met.length oc,.bool s.keeps] 98∧BM BQ w mb es) (λw f h _=>⟨h.1.blk,h.2.1⟩) [0] Al (rd [0,1,2,3,4,5,6,7,8,9] (.br 10 (.br 11 (.rd 12 .fin) .fin) .fin)) C kR kR kR (λ_ _ _ _ _ h=>h)<|A2 3 [] (λ_=>GI C C C (λw hK=>Ai C pE hK.2.2.1 C)<|A2 2 [0] (y<|λ_=>GI C C C (λw hK=>J5 (K:=BQ) (a:=tx) C C Xc Gt fL hK.2.2.2 hdis hlk)<|A2 3 [] (λ_=>Ag C ?_ Aj)));refine Aa 2 [] (λb3=>λ_=>AY [1] (λw f h _=>⟨h.1.blk,h.2.1⟩) C (λ_ h=>h)<|Ag C ?_ Aj);exact Aa 2 [0] (y<|λ_=>AY [1] (λw f h _=>⟨h.1.blk,h.2.1⟩) C (λ_ h=>h)<|A2 1 [] (λ_=>Bm<|IB true (by rw[Be,hdl];rfl) lE (λw1 f1 d=>⟨f1,({d with res:=d.res.1,stab:=He.stab}:AQ ⟨Gb wb mb oa,Gb wb mb oa,MS 98 9 wb mb ds s oa oc,w,f⟩ w1 f1 _ _ _ _).less (sD (sK sZ)) sR nE (λ_ h=>h)⟩)))
 rintro dk hdk;refine Aa 2 [] (λ_=>?_);refine Po (α:=Bool) (λx=>x=(dk&&!s.met.contains tx)) (λx=>(E4 0 (.pointer (some ⟨wb,0,none⟩)) 2 (.slice va vs.length vc) 4 (.pointer (some ⟨b1,0,none⟩)) 40 (.bool x))) (λx=>⟨Gb wb mb oa,Gb wb mb oa,MS 98 9 wb mb ds s oa oc,w,f⟩) (λx=>[⟨b1,[.int .i64 op,.int .i64 ln,.int .i64 co,S tx,.int .i64 nm,.slice O k.len nc],74,true⟩]) (λx=>[]) (λx=>[]) (λx=>[λw f=>AH w f k O nc,λw f=>IS w f vs va vc]) ?_ ?_;refine LM (λw=>AM w wb [.map (some mb),.slice oa s.met.length oc,.bool s.keeps] 98) (λw f h _=>h.blk) [0] Al (rd [0,1,2,3,4,5,6,7] (.br 8 (.rd 9 (.rd 10 .fin)) .fin)) C kR kR kR (λ_ _ _ _ _ h=>h)<|A2 2 [] (λ_=>Jn 31 C (λU=>?_) (λU=>?_));refine A2 3 [] (λ_=>GI C C C (λw hK=>Ai C MN hK.2.2 C)<|A2 2 [0] (y<|λ_=>Ag C ?_ Aj));exact Dm C C (eC vA C C) (λw f d=>Yi w s.met oa oc tx oM (oT.row d.res.row))<|Aa 1 [] (λ_=>AY [0] (λw f h _=>h.blk) C (λ_ h=>h)<|A2 2 [] (λ_=>Bm<|IB (!s.met.contains tx) (by rw[U];rfl) lE (λw f d=>⟨f,d.less (sK sZ) sR nE (λ_ h=>h)⟩)));refine A2 6 [] (λ_=>Ag C ?_ Aj);exact Aa 2 [] (λ_=>AY [0] (λw f h _=>h.blk) C (λ_ h=>h)<|A2 2 [] (λ_=>Bm<|IB false (by rw[U];rfl) lE (λw f d=>⟨f,d.less (sK sZ) sR nE (λ_ h=>h)⟩)));rintro nw hnw;refine Aa 1 [] (λ_=>?_);refine Po (α:=oA×Nat) (λx=>True) (λx=>(E3 0 (.pointer (some ⟨wb,0,none⟩)) 2 (.slice va vs.length vc) 4 (.pointer (some ⟨b1,0,none⟩)))) (λx=>⟨Gb wb mb oa,Gb wb mb x.1,He 98 9 wb mb ds (.slice x.1 (B1 (Be ds) tx s).met.length x.2) (.bool s.keeps) x.1 x.2 (B1 (Be ds) tx s).met,w,f⟩) (λx=>[⟨b1,[.int .i64 op,.int .i64 ln,.int .i64 co,S tx,.int .i64 nm,.slice O k.len nc],74,true⟩]) (λx=>[]) (λx=>[]) (λx=>[λw f=>AH w f k O nc,λw f=>IS w f vs va vc]) ?_ ?_;refine AN 40 C C (λQ=>?_) (λQ=>?_);refine Aa 1 [] (λ_=>CF [0] Al (rd [0,1,2,3,5,6] (.br 4 (.br 7 (.br 8 (.rd 9 (.rd 10 (.br 11 .fin .fin))) .fin) .fin) (.br 7 (.br 4 (.br 8 (.rd 9 (.rd 10 (.br 11 .fin .fin))) .fin) .fin) .fin))) C kR<|A2 6 [0] (y<|λ_=>Ag C ?_ ?_));refine Dn C C (λw f d=>Ai C MN d.res.blk C)<|Aa 1 [] (λ_=>Au [0] C<|Ag C ?_ Aj);refine Aa 2 [] (λb4=>λ_=>Au [1] C<|Ag C ?_ Aj);refine NG (MI':=Gb wb mb) (I':=λa' c'=>He 98 9 wb mb ds (.slice oa s.met.length oc) (.bool s.keeps) a' c' (s.met++[tx])) 0 C C SK C C C C C C C oM oM (λw f h=>h.row) (λb h=>.inr (.inr h)) (λ_ _ h=>Gb.or h) (λw f w2 a2 c2 h d hr hG=>He.app h (Fj.fle hG d.val (λb D=>(d.mi b (.inr (.inr D))).2.1)) hr hG) (λ_ _=>He.stab) λa2 c2=>Aa 1 [] (λ_=>Au [1] C<|A2 2 [] (λ_=>Ag C ?_ Aj));refine Vx (b:=wb) (I':=He 98 9 wb mb ds (.slice a2 (s.met.length+1) c2) (.bool s.keeps) a2 c2 (s.met++[tx])) C C C C MN C C C (.inl C) (λw f h=>h.blk) (λw f w2 h d L D=>He.store h (LI L (d.mi _ (.inl C)).2.1) L D) He.stab<|Aa 1 [] (λ_=>Au [1] C<|Bm ?_)
 have Y:(B1 (Be ds) tx s).met=s.met++[tx]:=by rw[B1,← hdk];simp only[← hnw,Q];rfl
 exact IB (a2,c2) tQ lE (λw f d=>⟨f,by dsimp only;rw[Y];rw[show (s.met++[tx]).length=s.met.length+1 by simp];exact d.less (sD (sK sZ)) sR nE (λ_ h=>h)⟩);refine Ag C ?_ Aj;refine Aa 2 [] (λb5=>λ_=>Au [1] C<|Ag C ?_ Aj);refine Dn C C (λw f d=>Ai C MN d.res.blk C)<|Aa 1 [] (λ_=>Au [1] C<|Ag C ?_ Aj);refine NG (MI':=Gb wb mb) (I':=λa' c'=>He 98 9 wb mb ds (.slice oa s.met.length oc) (.bool s.keeps) a' c' (s.met++[tx])) 0 C C SK C C C C C C C oM oM (λw f h=>h.row) (λb h=>.inr (.inr h)) (λ_ _ h=>Gb.or h) (λw f w2 a2 c2 h d hr hG=>He.app h (Fj.fle hG d.val (λb D=>(d.mi b (.inr (.inr D))).2.1)) hr hG) (λ_ _=>He.stab) λa2 c2=>Aa 1 [] (λ_=>Au [1] C<|A2 2 [] (λ_=>Ag C ?_ Aj));refine Vx (b:=wb) (I':=He 98 9 wb mb ds (.slice a2 (s.met.length+1) c2) (.bool s.keeps) a2 c2 (s.met++[tx])) C C C C MN C C C (.inl C) (λw f h=>h.blk) (λw f w2 h d L D=>He.store h (LI L (d.mi _ (.inl C)).2.1) L D) He.stab<|Aa 1 [] (λ_=>Au [1] C<|Bm ?_);have Y:(B1 (Be ds) tx s).met=s.met++[tx]:=by rw[B1,← hdk];simp only[← hnw,Q];rfl
 exact IB (a2,c2) tQ lE (λw f d=>⟨f,by dsimp only;rw[Y];rw[show (s.met++[tx]).length=s.met.length+1 by simp];exact d.less (sD (sK sZ)) sR nE (λ_ h=>h)⟩);refine Aa 2 [] (λ_=>?_);have Y:(B1 (Be ds) tx s).met=s.met:=by rw[B1,← hdk];simp only[← hnw,Q];rfl
 exact IB (oa,oc) tQ lE (λw f d=>⟨f,by dsimp only;rw[Y];exact d.less (sK sZ) sR nE (λ_ h=>h)⟩);rintro⟨F,G⟩ -;dsimp only;refine Aa 2 [] (λ_=>?_);refine Po (α:=Bool) (λx=>x=(B1 (Be ds) tx s).keeps) (λx=>(E3 0 (.pointer (some ⟨wb,0,none⟩)) 2 (.slice va vs.length vc) 4 (.pointer (some ⟨b1,0,none⟩)))) (λx=>⟨Gb wb mb oa,Gb wb mb F,He 98 9 wb mb ds (.slice F (B1 (Be ds) tx s).met.length G) (.bool x) F G (B1 (Be ds) tx s).met,w,f⟩) (λx=>[⟨b1,[.int .i64 op,.int .i64 ln,.int .i64 co,S tx,.int .i64 nm,.slice O k.len nc],74,true⟩]) (λx=>[]) (λx=>[]) (λx=>[λw f=>AH w f k O nc,λw f=>IS w f vs va vc]) ?_ ?_;refine Aa 5 [] (λ_=>Dn C C (λw f d=>Ai C YY d.res.blk C)<|Aa 1 [] (λ_=>AN 57 C C (λh4=>?_) (λh4=>?_)));refine Aa 5 [0] (y<|λ_=>AN 62 C C (λh5=>?_) (λh5=>?_));exact Aa 6 [0] (y<|λ_=>Vx (b:=wb) (I':=He 98 9 wb mb ds (.slice F (B1 (Be ds) tx s).met.length G) (.bool (!(tx==[114,101,102]))) F G (B1 (Be ds) tx s).met) C C C C YY C C C (.inl C) (λw f h=>h.blk) (λw f w2 h d L D=>He.store h (LI L (d.mi _ (.inl C)).2.1) L D) He.stab<|Aa 1 [] (λ_=>IB (!(tx==[114,101,102])) (by show _=(s.keeps&&!(tx==DA)&&!(tx==Ig));rw[h4,show (!(tx==DA))=_ from h5];rfl) lE (λw f d=>⟨f,d⟩)));exact Aa 6 [] (λ_=>Vx (b:=wb) (I':=He 98 9 wb mb ds (.slice F (B1 (Be ds) tx s).met.length G) (.bool false) F G (B1 (Be ds) tx s).met) C C C C YY C C C (.inl C) (λw f h=>h.blk) (λw f w2 h d L D=>He.store h (LI L (d.mi _ (.inl C)).2.1) L D) He.stab<|Aa 1 [] (λ_=>IB false (by show _=(s.keeps&&!(tx==DA)&&!(tx==Ig));rw[h4,show (!(tx==DA))=_ from h5];rfl) lE (λw f d=>⟨f,d⟩)));exact Aa 11 [] (λ_=>Vx (b:=wb) (I':=He 98 9 wb mb ds (.slice F (B1 (Be ds) tx s).met.length G) (.bool false) F G (B1 (Be ds) tx s).met) C C C C YY C C C (.inl C) (λw f h=>h.blk) (λw f w2 h d L D=>He.store h (LI L (d.mi _ (.inl C)).2.1) L D) He.stab<|Aa 1 [] (λ_=>IB false (by show _=(s.keeps&&!(tx==DA)&&!(tx==Ig));rw[h4];rfl) lE (λw f d=>⟨f,d⟩)));rintro kp2 rfl;refine Aa 10 [0] (y<|λ_=>AN 72 C C (λh6=>?_) (λh6=>?_));refine Aa 10 [0] (y<|λ_=>?_);have Z:CR (Be ds) vs op tx k s=(tx,(B1 (Be ds) tx s)):=by rw[CR,if_neg (by rw[J];decide),if_pos (by have:=eq_of_beq h6;omega)]
 exact AR (CY C C) (λw f d=>⟨(F,G),f,(by rw[Z]),tQ,d.exm,(λb D=>let ⟨J,U,Q⟩:=d.mi b D;Q.elim (λh=>.inr ⟨h,J,U⟩) .inl),(by rw[Z];exact d.res),tQ⟩);refine Aa 4 [] (λ_=>?_);have hal:=EC (Be ds) vs k (B1 (Be ds) tx s);have hcp:=Nd.cap_le k hkx;have hmm:=O8 (Be ds) tx s;refine CF [0] Al (rd [0,1,2,3,4,5,6] (.br 7 (rd [8,9,10] .fin) .fin)) C kR<|A2 7 [0,0] (y<|And.intro lM<|y<|λ_=>Ag C ?_ Aj);refine Wf (XX:=λ_ _=>False) C C (eC VQ C C) (λw f d=>(ih w f d.vl wb mb ds (B1 (Be ds) tx s) F G d.res d.mz k O nc vs va vc oM hsz hkx oM hvl d.f0 d.f1).retP) (λ_=>He.stab) (λ_=>trivial) (λ_ _ _ _ _ h=>h.elim) ?_;rintro⟨oa3,oc3⟩ -;refine Aa 1 [] (λ_=>Au [0] C<|A2 3 [] (And.intro lM<|And.intro lM<|λ_=>Bm<|Aa 2 [] (λ_=>?_)));have Z:CR (Be ds) vs op tx k s=([40]++tx++(allS (Be ds) vs k (B1 (Be ds) tx s)).1++[41],(allS (Be ds) vs k (B1 (Be ds) tx s)).2):=by rw[CR,if_neg (by rw[J];decide),if_neg (by have:=ne_of_beq_false h6;omega)]
 exact AR (CY C C) (λw f d=>⟨(oa3,oc3),f,(by rw[Z]),tQ,d.exm,(λb D=>let ⟨J,U,Q⟩:=d.mi b D;Q.elim (λh=>.inr ⟨h,J,U⟩) .inl),(by rw[Z];exact d.res),tQ⟩)
set_option maxHeartbeats 2000000 in
theorem Tf(m:Nat)(ih:W7 prog 34 98 9 m)(w:wO)(f:Fq)(hv:Vl w f)(wb mb:Nat)(ds:List (lU×Nd))(s:GP)(oa:oA)(oc:Nat)(hW:MS 98 9 wb mb ds s oa oc w f)(hf:∀b,Gb wb mb oa b→f b=0)(k:Nd)(O:oA)(nc:Nat)(vs:List lU)(va:oA)(vc:Nat)(hm:k.size≤m)(hsz:k.size≤200000)(Q:k.txb)(hml:s.met.length+k.size≤1000000)(hvl:vs.length≤1000000)(hN:AH w f k O nc)(hV:IS w f vs va vc) :
   Bq prog 72 #[.pointer (some ⟨wb,0,none⟩),.slice O k.len nc,.slice va vs.length vc] w (KB (α:=oA×Nat) (λ_=>S (allS (Be ds) vs k s).1) (λ_=>True) (Gb wb mb oa) (λx=>Gb wb mb x.1) (λx=>MS 98 9 wb mb ds (allS (Be ds) vs k s).2 x.1 x.2) (λ_=>[]) w f):=by
 have hkl:=Nd.len_le k;refine Cw (X:=⟨Gb wb mb oa,Gb wb mb oa,MS 98 9 wb mb ds s oa oc,w,f⟩) (H:=[]) (R:=[]) (B:=[]) (Fs:=[λw f=>AH w f k O nc,λw f=>IS w f vs va vc]) (f:=f) func72 C C C (Te (M:=Gb wb mb oa) hv hW He.stab (λb hb=>⟨hW.lt hb,hf b hb⟩) ⟨hN,hV,tQ⟩ ⟨AH.mono,IS.mono,tQ⟩)<|Aa 19 [] (λ_=>?_);refine FG (α:=Nat×Nd×lU×GP×oA×Nat) (λx=>x.2.1.len) (λx=>x.1+x.2.1.len=k.len∧allS (Be ds) vs k s=(x.2.2.1++(allS (Be ds) vs x.2.1 x.2.2.2.1).1,(allS (Be ds) vs x.2.1 x.2.2.2.1).2)∧x.2.2.1.length+x.2.1.cap≤k.cap∧x.2.2.2.1.met.length+x.2.1.size≤s.met.length+k.size∧x.2.1.txb∧x.2.1.size≤k.size) (λx=>(E6 0 (.pointer (some ⟨wb,0,none⟩)) 2 (.slice va vs.length vc) 7 (S x.2.2.1) 10 (.slice O k.len nc) 11 (.int .i64 (k.len:Int)) 12 (.int .i64 (x.1:Int)))) (λx=>⟨Gb wb mb oa,Gb wb mb x.2.2.2.2.1,MS 98 9 wb mb ds x.2.2.2.1 x.2.2.2.2.1 x.2.2.2.2.2,w,f⟩) (λx=>[]) (λx=>[]) (λx=>[]) (λx=>[λw f=>AV w f O x.1 x.2.1,λw f=>IS w f vs va vc]) (0,k,[],s,oa,oc) ⟨Nat.zero_add _,C,by simp,Nat.le_refl _,Q,Nat.le_refl _⟩ lE (λw f F=>F.more (B':=[]) (F':=[λw f=>AV w f O 0 k]) nE (AI.mem ⟨AH.at F.f0,tQ⟩) (Aw.mem ⟨AV.mono,tQ⟩) |>.less sR sR nE (mR [0,2])) ?_;rintro⟨i,r,t2,s2,U,Y⟩ ⟨hi,L,Z,J,G,hrs⟩;dsimp only at hi L Z J G hrs ⊢;refine Aa 6 [] (λ_=>AN 13 C C (λh1=>?_) (λh1=>?_));refine Aa 6 [] (λ_=>?_);have hil:i<k.len:=by have:=dT h1;omega
 obtain⟨D,ln2,co2,d,nm2,k2,r,rfl⟩:=Nd.cases1 r oM;have hi2:i+(r.len+1)=k.len:=hi;have hrs2:k2.size+r.size+1≤k.size:=hrs;have hml3:s2.met.length+(k2.size+r.size+1)≤s.met.length+k.size:=J;have htl2:t2.length+(d.length+8+k2.cap+r.cap)≤k.cap:=Z;have htn:=Qr (Be ds) vs D d k2 s2;have hcp:=Nd.cap_le k Q;refine IA 0 C ?_;rintro⟨eb,eo,ka,kc⟩ rfl;refine Aa 12 [100,0,0,0] (And.intro oM<|y2<|λb1=>y<|y<|λ_=>Wf (XX:=λ_ _=>False) C C (eC cY C C) (λw f F=>(ih w f F.vl wb mb ds s2 U Y F.res F.mz D ln2 co2 nm2 d k2 ka kc vs va vc oM oM G.1 G.2.1 oM hvl F.f0 F.f3).retP) (λ_=>He.stab) (λ_=>trivial) (λ_ _ _ _ _ h=>h.elim) ?_);rintro⟨oa3,oc3⟩ -;exact Aa 10 [] (And.intro lM<|And.intro lM<|And.intro ⟨oM,oM⟩<|λ_=>Df ((i+1,r,t2++([32]++(CR (Be ds) vs D d k2 s2).1),(CR (Be ds) vs D d k2 s2).2,oa3,oc3)) (show r.len<(Nd.cons D ln2 co2 d nm2 k2 r).len from Nat.lt_succ_self _) ⟨show i+1+r.len=_ by omega,L.trans (by rw[PM];simp),show (t2++([32]++(CR (Be ds) vs D d k2 s2).1)).length+r.cap≤_ by simp only[List.length_append,List.length_cons,List.length_nil];omega,show (CR (Be ds) vs D d k2 s2).2.met.length+r.size≤_ by omega,G.2.2,show r.size≤_ by omega⟩ lE (λw f F=>⟨_,F.less (List.nil_sublist _) sR (B':=[]) nE (mR [1,3])⟩));refine Aa 3 [] (λ_=>Fh<|Aa 9 [] (λ_=>?_));obtain rfl:r=.nil:=Nd.len0 (by have:=dF h1;omega);have K:allS (Be ds) vs k s=(t2,s2):=by rw[L];simp[SP.allS]
 exact AR (CY C C) (λw f F=>⟨(U,Y),f,(by rw[K]),tQ,F.exm,(λb hb=>let ⟨h1,h2,h3⟩:=F.mi b hb;h3.elim (λh=>.inr ⟨h,h1,h2⟩) .inl),(by rw[K];exact F.res),tQ⟩)
theorem OR(m:Nat):W7 prog 34 98 9 m∧Aa7 prog 72 98 9 m:=by
 induction m with
 |zero =>
   have h:W7 prog 34 98 9 0:=λ_ _ _ _ _ _ _ _ _ _ _ _ _ _ _ _ _ _ _ _ _ _ h=>absurd h (Nat.not_lt_zero _);exact⟨h,λw f d wb mb ds s oa oc D F k G nc vs va vc J K L O Q U Y=>Tf 0 h w f d wb mb ds s oa oc D F k G nc vs va vc J K L O Q U Y⟩
 |succ m Z =>
   have h:W7 prog 34 98 9 (m+1):=λw f d wb mb ds s oa oc D F op ln co nm tx k G nc vs va vc J K L O Q U Y h8=>Yk m Z.2 w f d wb mb ds s oa oc D F op ln co nm tx k G nc vs va vc J K L O Q U Y h8;exact⟨h,λw f d wb mb ds s oa oc D F k G nc vs va vc J K L O Q U Y=>Tf (m+1) h w f d wb mb ds s oa oc D F k G nc vs va vc J K L O Q U Y⟩
theorem Va(w:wO)(f:Fq)(d:Vl w f)(a:oA)(c:Nat)(s:lU) :
   Bq prog 73 #[.slice a 0 c,S s] w (B3 (α:=Unit) (λ_=>S []) (λ_=>True) (λ_=>[]) w f):=by
 exact Cw (X:=X0 w f) (H:=[]) (R:=[]) (B:=[]) (Fs:=[]) (f:=f) func73 C C C (Ci d tQ tQ)<|Aa 28 [] (λ_=>AR (CY C C) (λw f h=>⟨(),f,C,tQ,h.exm,tQ⟩))
theorem VB(w:wO)(f:Fq)(d:Vl w f)(a:oA)(c:Nat)(l:List lU)(s:lU)(h:IS w f l a c)(D:l.length≤1000000)(hlen:(Lib.join l s).length≤140737488355328):Bq prog 73 #[.slice a l.length c,S s] w (B3 (α:=Unit) (λ_=>S (Lib.join l s)) (λ_=>True) (λ_=>[]) w f):=by
 cases l with
 |nil=>exact Va w f d a c s
 |cons x l =>
   rcases h.2 with h|⟨b,off,rfl,F⟩
   · cases h
   · exact PT w f d b off c (x::l) s F (Nat.zero_lt_succ _) D h.1 hlen
set_option maxHeartbeats 2000000 in
theorem V8(w:wO)(f:Fq)(hv:Vl w f)(wb mb:Nat)(ds:List (lU×Nd))(s:GP)(oa:oA)(oc:Nat)(hW:MS 98 9 wb mb ds s oa oc w f)(hf:∀b,Gb wb mb oa b→f b=0)(op ln co nm:Int)(tx:lU)(k:Nd)(F:oA)(nc:Nat)(hsz:k.size≤200000)(htx:tx.length≤100000)(hkx:k.txb)(hml:s.met.length+k.size≤1000000)(hN:AH w f k F nc) :
   Bq prog 35 #[.pointer (some ⟨wb,0,none⟩),.agg #[.int .i64 op,.int .i64 ln,.int .i64 co,S tx,.int .i64 nm,.slice F k.len nc]] w (KB (α:=oA×Nat) (λ_=>S (ET (Be ds) tx k s).1) (λ_=>True) (Gb wb mb oa) (λx=>Gb wb mb x.1) (λx=>MS 98 9 wb mb ds (ET (Be ds) tx k s).2 x.1 x.2) (λ_=>[]) w f):=by
 have hkl:=Nd.len_le k;have hNc:=hN.1;refine Cw (X:=⟨Gb wb mb oa,Gb wb mb oa,MS 98 9 wb mb ds s oa oc,w,f⟩) (H:=[]) (R:=[]) (B:=[]) (Fs:=[λw f=>AH w f k F nc]) (f:=f) func35 C C C (Te (M:=Gb wb mb oa) hv hW He.stab (λb hb=>⟨hW.lt hb,hf b hb⟩) ⟨hN,tQ⟩ ⟨AH.mono,tQ⟩)<|Aa 17 [] (λb1=>λ_=>?_);refine Po (α:=Nat×Nd×Nd×List lU×oA×Nat) (λx=>x.1+x.2.2.1.len=k.len∧Ct k=(x.2.2.2.1,x.2.1,x.2.2.1)∧x.2.2.2.1.length=x.1∧x.2.1.len=x.1∧k=x.2.1.app x.2.2.1) (λx=>(E4 0 (.pointer (some ⟨wb,0,none⟩)) 3 (.pointer (some ⟨b1,0,none⟩)) 5 (.int .i64 (x.1:Int)) 6 (.slice x.2.2.2.2.1 x.2.2.2.1.length x.2.2.2.2.2))) (λx=>⟨Gb wb mb oa,Gb wb mb oa,MS 98 9 wb mb ds s oa oc,w,f⟩) (λx=>[⟨b1,[.int .i64 op,.int .i64 ln,.int .i64 co,S tx,.int .i64 nm,.slice F k.len nc],74,true⟩]) (λx=>[⟨9,1,x.2.2.2.2.1,x.2.2.2.2.2,x.2.2.2.1.length,x.2.2.2.1.map S⟩]) (λx=>[]) (λx=>[λw f=>AH w f k F nc]) ?_ ?_;refine Aa 1 [] (λ_=>PA 9 1 ?_);refine FG (α:=Nat×Nd×Nd×List lU×oA×Nat) (λx=>x.2.2.1.len) (λx=>x.1+x.2.2.1.len=k.len∧Ct k=(x.2.2.2.1++(Ct x.2.2.1).1,x.2.1.app (Ct x.2.2.1).2.1,(Ct x.2.2.1).2.2)∧x.2.2.2.1.length=x.1∧x.2.1.len=x.1∧k=x.2.1.app x.2.2.1) (λx=>(E4 0 (.pointer (some ⟨wb,0,none⟩)) 3 (.pointer (some ⟨b1,0,none⟩)) 5 (.int .i64 (x.1:Int)) 6 (.slice x.2.2.2.2.1 x.2.2.2.1.length x.2.2.2.2.2))) (λx=>⟨Gb wb mb oa,Gb wb mb oa,MS 98 9 wb mb ds s oa oc,w,f⟩) (λx=>[⟨b1,[.int .i64 op,.int .i64 ln,.int .i64 co,S tx,.int .i64 nm,.slice F k.len nc],74,true⟩]) (λx=>[⟨9,1,x.2.2.2.2.1,x.2.2.2.2.2,x.2.2.2.1.length,x.2.2.2.1.map S⟩]) (λx=>[]) (λx=>[λw f=>AH w f k F nc,λw f=>AV w f F x.1 x.2.2.1]) (0,.nil,k,[],none,0) ⟨Nat.zero_add _,C,C,C,C⟩ lE (λw f d=>d.more (B':=[]) (F':=[λw f=>AH w f k F nc,λw f=>AV w f F 0 k]) nE (AI.mem ⟨d.f0,AH.at d.f0,tQ⟩) (Aw.mem ⟨AH.mono,AV.mono,tQ⟩) |>.less sR sR nE (mR [0,1])) ?_;rintro⟨i,u,r,vs,Z,rc⟩ ⟨hi,J,K,G,Y⟩;dsimp only at hi J K G Y ⊢;refine Aa 9 [0] (y<|λ_=>AN 15 C C (λh1=>?_) (λh1=>?_));have hil:i<k.len:=by have:=dT h1;omega
 obtain⟨L,O,Q,D,U,k2,r,rfl⟩:=Nd.cases1 r oM;have hi2:i+(r.len+1)=k.len:=hi;refine IA 1 C ?_;rintro⟨eb,eo,ka,kc⟩ rfl;refine Aa 10 [0,100,0] (y<|And.intro oM<|y2<|λ_=>AN 23 C C (λh2=>?_) (λh2=>?_));exact Aa 14 [0,100,3] (y<|And.intro oM<|y2<|λb2=>λ_=>Dq 0 0 C C SK C C C C C C C C (λ_ _=>C) oM oM λra2 rc2=>Aa 9 [] (And.intro ⟨oM,oM⟩<|λ_=>Df ((i+1,u.app (Nd.cons L O Q D U k2 .nil),r,vs++[D],ra2,rc2)) (show r.len<(Nd.cons L O Q D U k2 r).len from Nat.lt_succ_self _) ⟨show i+1+r.len=_ by omega,J.trans (by rw[YC h2];simp[Nd.app_assoc,Nd.app]),by show (vs++[D]).length=i+1;rw[List.length_append,K];rfl,by show (u.app (Nd.cons L O Q D U k2 .nil)).len=i+1;rw[Nd.app_len,G];rfl,Y.trans (by rw[Nd.app_assoc];rfl)⟩ (lu4 C C C (Eq.trans (b:=some (Value.slice ra2 (vs.length+1) rc2)) C (by dsimp only;rw[List.length_append];rfl))) (λw f d=>⟨_,by have hM9:=d.less (H':=[⟨b1,[.int .i64 op,.int .i64 ln,.int .i64 co,S tx,.int .i64 nm,.slice (some ⟨eb,eo,none⟩) k.len nc],74,true⟩]) (B':=[]) (F':=[λw f=>AH w f k (some ⟨eb,eo,none⟩) nc,λw f=>AV w f (some ⟨eb,eo,none⟩) (i+1) r]) (.cons _ sR) sR nE (mR [2,1]);dsimp only;rw[show (vs++[D]).length=vs.length+1 by rw[List.length_append];rfl,List.map_append];exact hM9⟩)));exact Aa 3 [] (λ_=>Fh<|Aa 1 [] (λ_=>IB (i,u,(.cons L O Q D U k2 r),vs,Z,rc) ⟨hi,J.trans (by rw[Zi h2];simp[Nd.app_nil]),K,G,Y⟩ lE (λw f d=>⟨f,d.less sR sR nE (mR [2])⟩)));refine Aa 13 [] (λ_=>Fh<|Aa 1 [] (λ_=>?_));obtain rfl:r=.nil:=Nd.len0 (by have:=dF h1;omega);exact IB (i,u,.nil,vs,Z,rc) ⟨hi,J.trans (by simp[Ct,Nd.app_nil]),K,G,Y⟩ lE (λw f d=>⟨f,d.less sR sR nE (mR [0])⟩);rintro⟨i,u,r,vs,Z,rc⟩ ⟨hi,J,K,G,Y⟩;dsimp only at hi J K G Y ⊢;have hsz2:u.size+r.size=k.size:=by rw[Y,LL]
 have hcp2:u.cap+r.cap=k.cap:=by rw[Y,RW]
 obtain⟨hux,hrx⟩:=bQ u r (Y▸hkx);have hcp:=Nd.cap_le k hkx;have hrl:=Nd.len_le r;refine P0 (λw f=>IS w f vs Z rc) IS.mono (λw f d=>fF d) ?_;obtain⟨fa,hfa⟩:∃fa,fa=frA F nc i:=⟨_,C⟩;refine D5 (λw f=>AH w f r fa (nc-i)) (λw f d=>hfa▸AH.drop (Y▸d.f1) G) AH.mono<|D5 (λw f=>AH w f u F nc) (λw f d=>jP (Y▸d.f2)) AH.mono<|PA 9 1<|Aa 12 [0] (y<|λ_=>Dn C C (λw f d=>mG (m:=r.len) hfa oM C C O6)<|Aa 5 [] (λ_=>?_));refine FG (α:=Nat×Nd×List lU×GP×oA×Nat×oA×Nat) (λx=>x.2.1.len) (λx=>x.1+x.2.1.len=r.len∧Ed (Be ds) vs r s=(x.2.2.1++(Ed (Be ds) vs x.2.1 x.2.2.2.1).1,(Ed (Be ds) vs x.2.1 x.2.2.2.1).2)∧(FH x.2.2.1).length+x.2.1.cap≤r.cap∧x.2.2.2.1.met.length+x.2.1.size≤s.met.length+r.size∧x.2.1.txb∧x.2.1.size≤r.size∧x.2.2.1.length=x.1) (λx=>(E8 0 (.pointer (some ⟨wb,0,none⟩)) 3 (.pointer (some ⟨b1,0,none⟩)) 5 (.int .i64 (i:Int)) 6 (.slice Z vs.length rc) 7 (.slice x.2.2.2.2.2.2.1 x.2.2.1.length x.2.2.2.2.2.2.2) 38 (.slice fa r.len (nc-i)) 39 (.int .i64 (r.len:Int)) 40 (.int .i64 (x.1:Int)))) (λx=>⟨Gb wb mb oa,Gb wb mb x.2.2.2.2.1,MS 98 9 wb mb ds x.2.2.2.1 x.2.2.2.2.1 x.2.2.2.2.2.1,w,f⟩) (λx=>[⟨b1,[.int .i64 op,.int .i64 ln,.int .i64 co,S tx,.int .i64 nm,.slice F k.len nc],74,true⟩]) (λx=>[⟨9,1,x.2.2.2.2.2.2.1,x.2.2.2.2.2.2.2,x.2.2.1.length,x.2.2.1.map S⟩]) (λx=>[]) (λx=>[λw f=>AH w f u F nc,λw f=>AV w f fa x.1 x.2.1,λw f=>IS w f vs Z rc]) (0,r,[],s,oa,oc,none,0) ⟨Nat.zero_add _,C,by show 0+r.cap≤_;omega,Nat.le_refl _,hrx,Nat.le_refl _,C⟩ lE (λw f d=>d.more (B':=[]) (F':=[λw f=>AH w f u F nc,λw f=>AV w f fa 0 r,λw f=>IS w f vs Z rc]) nE (AI.mem ⟨d.f0,AH.at d.f1,d.f2,tQ⟩) (Aw.mem ⟨AH.mono,AV.mono,IS.mono,tQ⟩) |>.less sR sR nE (mR [0,1,2])) ?_;rintro⟨j,q,cs,s2,oa2,oc2,ca,cc⟩ ⟨hj,hcs,hqc,hqm,hqx,hqs,hcl⟩;dsimp only at hj hcs hqc hqm hqx hqs hcl ⊢;refine Aa 6 [] (λ_=>AN 41 C C (λh3=>?_) (λh3=>?_));refine Aa 6 [] (λ_=>?_);have hjl:j<r.len:=by have:=dT h3;omega
 obtain⟨L,O,Q,D,U,k2,q,rfl⟩:=Nd.cases1 q oM;have hj2:j+(q.len+1)=r.len:=hj;have hqs2:k2.size+q.size+1≤r.size:=hqs;have hqm2:s2.met.length+(k2.size+q.size+1)≤s.met.length+r.size:=hqm;have hqc2:(FH cs).length+(D.length+8+k2.cap+q.cap)≤r.cap:=hqc;have hal:=EC (Be ds) vs k2 s2;have hjs:=VI cs (D++(allS (Be ds) vs k2 s2).1);rw[List.length_append] at hjs;have hql:=hqx.1;refine IA 1 C ?_;rintro⟨eb,eo,ka,kc⟩ rfl;refine Aa 7 [100,0,0] (And.intro oM<|y2<|λb3=>y<|λ_=>CF [0,1] Al (rd [0,1,2,3,4,5,6] (.br 7 (.rd 8 (.br 9 (.br 10 (.rd 11 .fin) .fin) .fin)) .fin)) C kR<|A2 7 [0,0] (y<|y<|λ_=>Ag C ?_ Aj));refine Wf (XX:=λ_ _=>False) C C (eC VQ C C) (λw f d=>((OR k2.size).2 w f d.vl wb mb ds s2 oa2 oc2 d.res d.mz k2 ka kc vs Z rc (Nat.le_refl _) oM hqx.2.1 oM oM d.f0 d.f4).retP) (λ_=>He.stab) (λ_=>trivial) (λ_ _ _ _ _ h=>h.elim) ?_;rintro⟨oa3,oc3⟩ -;dsimp only;refine Aa 1 [] (λ_=>Au [0,1] C<|A2 1 [] (And.intro lM<|λ_=>Ag C ?_ Aj));refine Aa 2 [] (λb4=>λ_=>Au [1,2] C<|Ag C ?_ Aj);exact Dq 0 0 C C SK C C C C C C C C (λ_ _=>C) oM oM λca2 cc2=>Aa 1 [] (λ_=>Au [1,2] C<|A2 1 [] (λ_=>Bm<|Aa 6 [] (And.intro ⟨oM,oM⟩<|λ_=>Df ((j+1,q,cs++[(D++(allS (Be ds) vs k2 s2).1)],(allS (Be ds) vs k2 s2).2,oa3,oc3,ca2,cc2)) (show q.len<(Nd.cons L O Q D U k2 q).len from Nat.lt_succ_self _) ⟨show j+1+q.len=_ by omega,hcs.trans (by rw[OL];simp),show (FH (cs++[(D++(allS (Be ds) vs k2 s2).1)])).length+q.cap≤_ by omega,show (allS (Be ds) vs k2 s2).2.met.length+q.size≤_ by omega,hqx.2.2,show q.size≤_ by omega,by show (cs++[(D++(allS (Be ds) vs k2 s2).1)]).length=j+1;rw[List.length_append,hcl];rfl⟩ (iY C C C C (Eq.trans (b:=some (Value.slice ca2 (cs.length+1) cc2)) C (by dsimp only;rw[List.length_append];rfl)) C C C) (λw f d=>⟨_,by have hM9:=d.less (H':=[⟨b1,[.int .i64 op,.int .i64 ln,.int .i64 co,S tx,.int .i64 nm,.slice F k.len nc],74,true⟩]) (B':=[]) (F':=[λw f=>AH w f u F nc,λw f=>AV w f (some ⟨eb,eo,none⟩) (j+1) q,λw f=>IS w f vs Z rc]) (.cons _ (.cons _ sR)) sR nE (mR [2,1,4]);dsimp only;rw[show (cs++[(D++(allS (Be ds) vs k2 s2).1)]).length=cs.length+1 by rw[List.length_append];rfl,List.map_append];exact hM9⟩))));refine Aa 3 [] (λ_=>Fh<|Aa 3 [] (λ_=>?_));obtain rfl:q=.nil:=Nd.len0 (by have:=dF h3;omega);have hcs2:Ed (Be ds) vs r s=(cs,s2):=by rw[hcs];simp[Ed]
 have hds:=ZJ (tx:=tx) J hcs2;have hjc:=L0 cs;have hal:=EC (Be ds) vs u s2;have huc:=Nd.cap_le u hux;refine P0 (λw f=>IS w f cs ca cc) IS.mono (λw f d=>fF d)<|CF [0] Al (rd [0,1,2,3,4,5,6,7,8,12] (.br 9 (.rd 10 (.rd 11 (.br 13 (.rd 14 (.rd 15 .fin)) .fin))) .fin)) C kR<|A2 7 [0,0] (y<|And.intro lM<|y<|λ_=>GI C C C (λw hK=>O2 (i:=u.len) (by rw[G]) C C O6 (by have:=hNc;omega))<|A2 2 [] (λ_=>Ag C ?_ Aj));refine Wf (XX:=λ_ _=>False) C C (eC VQ C C) (λw f d=>((OR u.size).2 w f d.vl wb mb ds s2 oa2 oc2 d.res d.mz u F nc vs Z rc (Nat.le_refl _) oM hux oM oM d.f1 d.f3).retP) (λ_=>He.stab) (λ_=>trivial) (λ_ _ _ _ _ h=>h.elim) ?_;rintro⟨oa4,oc4⟩ -;dsimp only;refine Aa 1 [] (λ_=>Au [0] C<|A2 2 [] (And.intro lM<|And.intro lM<|λ_=>Ag C ?_ Aj));refine Bt (α:=Unit) (val:=λ_=>S (FH cs)) (q:=λ_=>True) (F':=λ_=>[]) C C (eC cX C C) (λw f d=>(by have h9:=VB w f d.vl ca cc cs [44] d.f0 oM (by rw[← hjc];omega);rw[← hjc] at h9;exact h9)) (λx=>trivial) ?_;rintro⟨⟩ -;exact Aa 1 [] (λ_=>Au [0] C<|A2 2 [] (And.intro lM<|λ_=>Bm<|Aa 2 [] (λ_=>AR (CY C C) (λw f d=>⟨(oa4,oc4),f,(by rw[hds]),tQ,d.exm,(λb hb=>let ⟨h1,h2,h3⟩:=d.mi b hb;h3.elim (λh=>.inr ⟨h,h1,h2⟩) .inl),(by rw[hds];exact d.res),tQ⟩))))
set_option maxHeartbeats 2000000 in
theorem SS(w:wO)(f:Fq)(hv:Vl w f)(nds:Nd)(na:oA)(nc:Nat)(hsz:nds.size≤200000)(htx:nds.txb)(hnd:((C1 nds).map (·.1)).Nodup)(hro:RD nds)(hN:AH w f nds na nc) :
   Bq prog 13 #[.slice na nds.len nc] w (B3 (α:=oA×Nat) (λx=>inV (ZA nds) x) (λ_=>True) (λx=>[λw f=>K3 w f (bsR (ZA nds)) x.1 x.2]) w f):=by
 have hkl:=Nd.len_le nds;refine Cw (X:=X0 w f) (H:=[]) (R:=[]) (B:=[]) (Fs:=[λw f=>AH w f nds na nc]) (f:=f) func13 C C C (Ci hv ⟨hN,tQ⟩ ⟨AH.mono,tQ⟩)<|Aa 9 [] (λb1=>λ_=>yJ (K:=BQ) C C λmb=>mxx (λb=>b=mb) (iX mb []) (λb h=>.inr h) (λw f h=>⟨[],h.2,C,tQ⟩) (iX.stab C)<|Aa 12 [] (λ_=>?_));refine FG (α:=Nat×Nd×DS) (λx=>x.2.1.len) (λx=>x.1+x.2.1.len=nds.len∧C1 nds=C1 x.2.1++x.2.2) (λx=>(E6 0 (.slice na nds.len nc) 3 (.pointer (some ⟨b1,0,none⟩)) 5 (.map (some mb)) 16 (.slice na nds.len nc) 17 (.int .i64 (nds.len:Int)) 18 (.int .i64 (x.1:Int)))) (λx=>⟨λ_=>False,λb=>b=mb,iX mb x.2.2,w,f⟩) (λx=>[⟨b1,[.int .i64 0,.int .i64 0],27,true⟩]) (λx=>[]) (λx=>[]) (λx=>[λw f=>AH w f nds na nc,λw f=>AV w f na x.1 x.2.1]) (0,nds,[]) ⟨Nat.zero_add _,by simp⟩ lE (λw f D=>D.more (B':=[]) (F':=[λw f=>AH w f nds na nc,λw f=>AV w f na 0 nds]) nE (AI.mem ⟨D.f0,AH.at D.f0,tQ⟩) (Aw.mem ⟨AH.mono,AV.mono,tQ⟩) |>.less sR sR nE (mR [0,1])) ?_;rintro⟨i,r,dl⟩ ⟨hi,hdl⟩;dsimp only at hi hdl ⊢;refine Aa 6 [] (λ_=>AN 19 C C (λh1=>?_) (λh1=>?_));refine Aa 6 [] (λ_=>?_);have hil:i<nds.len:=by have:=dT h1;omega
 obtain⟨Q,U,Y,F,nm2,k2,r,rfl⟩:=Nd.cases1 r oM;have hi2:i+(r.len+1)=nds.len:=hi;refine IA 1 C ?_;rintro⟨eb,eo,ka,kc⟩ rfl;refine Aa 14 [100,0,0,0] (And.intro oM<|y2<|λb2=>y<|y<|λ_=>AN 24 C C (λh2=>?_) (λh2=>?_));refine Aa 6 [0,0] (y<|y<|λ_=>?_);have hdl2:C1 nds=C1 r++(F,k2)::dl:=by rw[hdl,C1,if_pos h2];simp
 have hnl:AD dl F=none:=Wq (hdl2▸hnd);exact oZ (λes w f=>BM BQ w mb es∧G8 w f dl es∧Jp es) (λw f h=>h) (λes _ _ _ _ h hF hb=>⟨h.1.heap (hb _ C),G8.mono hF _ _ h.2.1,h.2.2⟩) λes=>Jf (p:=Jp es∧ER es F=none) (λw f D=>⟨D.res.2.2,(G8.look D.res.2.1).1 hnl⟩) λhes=>cN (K:=BQ) (a:=F) (l:=es) (I':=iX mb ((F,k2)::dl)) C C C C Xc Gt C hes.1 hes.2 (λw f h=>h.1) (λw f w2 h D hC hm=>⟨_,hm,⟨Q,U,Y,nm2,ka,kc,es,C,AH.mono _ _ _ _ D.f0 (hC.fle (D.mi _ C).2.1),G8.mono (hC.fle (D.mi _ C).2.1) _ _ h.2.1⟩,hes.2,hes.1⟩) (iX.stab C)<|Aa 7 [] (And.intro ⟨oM,oM⟩<|λ_=>Df ((i+1,r,(F,k2)::dl)) (show r.len<(Nd.cons Q U Y F nm2 k2 r).len from Nat.lt_succ_self _) ⟨show i+1+r.len=_ by omega,hdl2⟩ lE (λw f D=>⟨_,D.less (sD (sK sZ)) sR (F':=[λw f=>AH w f nds (some ⟨eb,eo,none⟩) nc,λw f=>AV w f (some ⟨eb,eo,none⟩) (i+1) r]) nE (mR [2,1])⟩));exact Aa 8 [] (And.intro ⟨oM,oM⟩<|λ_=>Df ((i+1,r,dl)) (show r.len<(Nd.cons Q U Y F nm2 k2 r).len from Nat.lt_succ_self _) ⟨show i+1+r.len=_ by omega,hdl.trans (by rw[C1,if_neg (by rw[h2];decide)])⟩ lE (λw f D=>⟨_,D.less (sD (sK sZ)) sR (F':=[λw f=>AH w f nds (some ⟨eb,eo,none⟩) nc,λw f=>AV w f (some ⟨eb,eo,none⟩) (i+1) r]) nE (mR [2,1])⟩));refine Aa 3 [] (λ_=>Fh<|Aa 3 [] (λ_=>?_));obtain rfl:r=.nil:=Nd.len0 (by have:=dF h1;omega);have hdd:dl=C1 nds:=hdl.symm;have hdm:∀d O,AD dl d=some O→O.size+1≤nds.size∧d.length≤100000∧O.txb:=λd O h=>OF (p:=(d,O)) (hdd▸Mu h) htx;have hdn:(dl.map λp=>jC p.1 p.2).sum≤nds.cap∧dl.length≤nds.len:=by rw[hdd];exact NY nds
 have hcap:=Nd.cap_le nds htx;refine Aa 13 [] (λ_=>PA 34 2 ?_);refine FG (α:=Nat×Nd×List (lU×lU)×oA×Nat) (λx=>x.2.1.len) (λx=>x.1+x.2.1.len=nds.len∧ZA nds=Re dl x.2.1 x.2.2.1∧x.2.1.txb∧x.2.1.size≤nds.size∧RD x.2.1∧x.2.2.1.length≤x.1) (λx=>(E6 3 (.pointer (some ⟨b1,0,none⟩)) 5 (.map (some mb)) 8 (.slice x.2.2.2.1 x.2.2.1.length x.2.2.2.2) 30 (.slice na nds.len nc) 31 (.int .i64 (nds.len:Int)) 32 (.int .i64 (x.1:Int)))) (λx=>⟨λ_=>False,λb=>b=mb,iX mb dl,w,f⟩) (λx=>[⟨b1,[.int .i64 0,.int .i64 0],27,true⟩]) (λx=>[⟨34,2,x.2.2.2.1,x.2.2.2.2,x.2.2.1.length,bC x.2.2.1⟩]) (λx=>[]) (λx=>[λw f=>AV w f na x.1 x.2.1]) (0,nds,[],none,0) ⟨Nat.zero_add _,by show Re (C1 nds) nds []=_;rw[← hdd],htx,Nat.le_refl _,hro,Nat.le_refl _⟩ lE (λw f D=>D.more (B':=[]) (F':=[λw f=>AV w f na 0 nds]) nE (AI.mem ⟨AH.at D.f0,tQ⟩) (Aw.mem ⟨AV.mono,tQ⟩) |>.less (sK sZ) sR nE (mR [0])) ?_;rintro⟨i,r,out,ra,rc⟩ ⟨hi,hof,hrx,hrs,hro2,hol⟩;dsimp only at hi hof hrx hrs hro2 hol ⊢;refine Aa 6 [] (λ_=>AN 33 C C (λh3=>?_) (λh3=>?_));refine Aa 6 [] (λ_=>?_);have hil:i<nds.len:=by have:=dT h3;omega
 obtain⟨Q,U,Y,F,nm2,k2,r,rfl⟩:=Nd.cases1 r oM;have hi2:i+(r.len+1)=nds.len:=hi;have hrs2:k2.size+r.size+1≤nds.size:=hrs;refine IA 0 C ?_;rintro⟨eb,eo,ka,kc⟩ rfl;refine Aa 15 [100,0,0,0] (And.intro oM<|y2<|λb3=>y<|y<|λ_=>AN 38 C C (λh4=>?_) (λh4=>?_));exact Aa 9 [] (And.intro ⟨oM,oM⟩<|λ_=>Df ((i+1,r,out,ra,rc)) (show r.len<(Nd.cons Q U Y F nm2 k2 r).len from Nat.lt_succ_self _) ⟨show i+1+r.len=_ by omega,hof.trans (ZL (by simpa using h4)),hrx.2.2,show r.size≤_ by omega,hro2.2,show out.length≤i+1 by omega⟩ lE (λw f D=>⟨_,D.less (sD (sK sZ)) sR nE (mR [1])⟩));refine Aa 11 [] (λ_=>AN 41 C C (λh5=>?_) (λh5=>?_));refine Aa 2 [] (λ_=>CF [0] Al (rd [0,1,2] (.br 3 (.rd 4 .fin) .fin)) C kR<|A2 3 [0] (y<|λ_=>Ag C ?_ Aj));refine Aa 2 [1] (y<|λ_=>Au [0] C<|A2 1 [] (λ_=>Bm<|Aa 5 [] (λ_=>Z0<|Aa 2 [] (λ_=>?_))));have G:ZA nds=.error (U,Y,4):=hof.trans (ZV (by simpa using h4) h5);exact AR (λw f D=>DP C (Ah C) (Ac C Fa D.k1 C) (Ah C)) (λw f D=>⟨(none,0),f,(by rw[G];rfl),tQ,D.exm,⟨by rw[G];exact⟨Nat.le_refl _,.inl C⟩,tQ⟩⟩);refine Aa 4 [] (λ_=>?_);have hop:(Q==43)=true:=by simpa using h4
 obtain⟨L,Z,co3,J,nm3,k3,q3,rfl⟩:=mQ (hro2.1 (eq_of_beq hop));have hks3:(Nd.cons L Z co3 J nm3 k3 q3).size=k3.size+q3.size+1:=rfl;have hkl3:(Nd.cons L Z co3 J nm3 k3 q3).len=q3.len+1:=rfl;have hx3:J.length≤100000∧k3.txb∧q3.txb:=hrx.2.1;refine mna 0 C<|IA 0 C ?_;rintro⟨eb3,eo3,ka3,kc3⟩ rfl;refine Aa 21 [1,100,0,0,0] (λb4=>y<|And.intro oM<|y2<|λb5=>y<|y<|λ_=>Jf (p:=b4≠mb) (λw f D=>(D.own b4 (List.mem_append.2 (.inl (List.mem_map.2 ⟨_,BO (i:=1) C,C⟩)))).2.2) λhwm=>yE 1 C C<|mxx (Gb b4 mb none) (MS 98 9 b4 mb dl ⟨[],true⟩ none 0) (λb h=>h.elim .inr λh=>h.elim .inl λh=>by cases h) (λw f h=>⟨h.2,h.1,Gf _ _ _,hwm,(λh=>by cases h),(λh=>by cases h)⟩) He.stab<|Wf (XX:=λ_ _=>False) C C (eC cY C C) (λw f D=>((OR (k3.size+1)).1 w f D.vl b4 mb dl ⟨[],true⟩ none 0 D.res D.mz L Z co3 nm3 J k3 ka3 kc3 [] none 0 (Nat.lt_succ_self _) oM hx3.1 hx3.2.1 (by show 0+k3.size+1≤_;omega) (Nat.zero_le _) D.f0 ⟨Nat.le_refl _,.inl C⟩).retP) (λ_=>He.stab) (λ_=>trivial) (λ_ _ _ _ _ h=>h.elim) ?_);rintro⟨oa,oc⟩ -;dsimp only;have htl:=(Qr (Be dl) [] L J k3 ⟨[],true⟩).1;have hc3:=Nd.cap_le k3 hx3.2.1;have hgd:Gd dl (CR (Be dl) [] L J k3 ⟨[],true⟩).2:=Rl.text.gd Gd.nil;generalize hts:CR (Be dl) [] L J k3 ⟨[],true⟩=ts at htl hgd ⊢;obtain⟨t0,s0⟩:=ts;dsimp only at htl hgd ⊢;refine Aa 10 [] (λ_=>?_);refine FG (α:=Nat×lU×GP×oA×Nat) (λx=>dl.length-x.1) (λx=>HN dl (dl.length+1) 0 t0 s0=HN dl (dl.length+1-x.1) x.1 x.2.1 x.2.2.1∧x.1≤x.2.2.1.met.length∧Gd dl x.2.2.1∧x.2.1.length≤t0.length+((x.2.2.1.met.take x.1).map (wD jC dl)).sum) (λx=>(yC 3 (.pointer (some ⟨b1,0,none⟩)) 5 (.map (some mb)) 8 (.slice ra out.length rc) 10 (.pointer (some ⟨b3,0,none⟩)) 11 (.pointer (some ⟨b4,0,none⟩)) 12 (.pointer (some ⟨b5,0,none⟩)) 13 (S x.2.1) 14 (.int .i64 (x.1:Int)) 30 (.slice (some ⟨eb,eo,none⟩) nds.len nc) 31 (.int .i64 (nds.len:Int)) 32 (.int .i64 (i:Int)))) (λx=>⟨λ_=>False,Gb b4 mb x.2.2.2.1,MS 98 9 b4 mb dl x.2.2.1 x.2.2.2.1 x.2.2.2.2,w,f⟩) (λx=>[⟨b5,[.int .i64 L,.int .i64 Z,.int .i64 co3,S J,.int .i64 nm3,.slice ka3 k3.len kc3],74,true⟩,⟨b3,[.int .i64 Q,.int .i64 U,.int .i64 Y,S F,.int .i64 nm2,.slice (some ⟨eb3,eo3,none⟩) (Nd.cons L Z co3 J nm3 k3 q3).len kc],74,true⟩,⟨b1,[.int .i64 0,.int .i64 0],27,true⟩]) (λx=>[⟨34,2,ra,rc,out.length,bC out⟩]) (λx=>[]) (λx=>[λw f=>AV w f (some ⟨eb,eo,none⟩) (i+1) r]) (0,t0,s0,oa,oc) ⟨C,Nat.zero_le _,hgd,by simp⟩ lE (λw f D=>D.less sR sR nE (mR [4])) ?_;rintro⟨j,t,s,oa,oc⟩ ⟨hme,hjm,hg,htl3⟩;dsimp only at hme hjm hg htl3 ⊢;refine Aa 7 [] (λ_=>Dn C C (λw f D=>Ai C MN D.res.blk C)<|Aa 4 [] (λ_=>AN 60 C C (λh6=>?_) (λh6=>?_)));refine Aa 5 [] (λ_=>?_);have hjl:j<s.met.length:=by have:=dT h6;omega
 obtain⟨d,hx⟩:∃d,s.met[j]?=some d:=⟨_,List.getElem?_eq_getElem hjl⟩;have hml:=WO hg;obtain⟨O,hdx⟩:∃O,AD dl d=some O:=Option.isSome_iff_exists.1 (hg.2 d (List.mem_of_getElem? hx));obtain⟨hds1,hds2,hds3⟩:=hdm d O hdx;have hsl0:=aC hx hdx htl3;have hsl:=hsl0;rw[List.length_append] at hsl;have hst:=ZS (Rl.data (tx:=d) (k:=O) |>.gd hg) (j+1);refine Jf (p:=∃ob,oa=some ⟨ob,0,none⟩) (λw f D=>let ⟨b,_,h,_⟩:=aV D.res.row hx;⟨b,h⟩) λhob=>?_;obtain⟨ob,rfl⟩:=hob;refine oZ (λes w f=>MS 98 9 b4 mb dl s (some ⟨ob,0,none⟩) oc w f∧BM BQ w mb es∧G8 w f dl es∧Jp es) (λw f h=>let ⟨es,h1,h2,h3⟩:=h.map;⟨es,h,h1,h2,h3⟩) (λes w f w' f' h hF hb=>⟨He.stab w f w' f' h.1 hF hb,h.2.1.heap (hb _ (.inr (.inl C))),G8.mono hF _ _ h.2.2.1,h.2.2.2⟩) λes=>Jf (λw f D=>D.res.2.2.2) λhdis=>KU (α:=Int×Int×Int×Int×oA×Nat) (λx=>ER es d=some (.agg (KW x.1 x.2.1 x.2.2.1 d x.2.2.2.1 x.2.2.2.2.1 O.len x.2.2.2.2.2).toArray)) (λx=>[]) (λx=>[λw f=>AH w f O x.2.2.2.2.1 x.2.2.2.2.2]) (λw f D=>let ⟨a1,a2,a3,a4,a5,a6,h1,h2⟩:=(G8.look D.res.2.2.1).2 O hdx;⟨(a1,a2,a3,a4,a5,a6),h1,nE,AI.mem ⟨h2,tQ⟩⟩) (λx=>Aw.mem ⟨AH.mono,tQ⟩) ?_;rintro⟨dop,dln,dco,dnm,da,dc⟩ hlk;dsimp only at hlk ⊢;refine Aa 7 [] (λ_=>Dn C C (λw f D=>Ai C MN D.res.1.blk C)<|Aa 2 [] (And.intro oM<|λ_=>Dn C C (λw f D=>eH (i:=j) C wT D.res.1.row hx)<|Dn C C (λw f D=>M8 (K:=BQ) (a:=d) (v:=.agg (KW dop dln dco d dnm da O.len dc).toArray) C C Xc Gt fL D.res.2.1 hdis (by rw[hlk];rfl))<|Wf (XX:=λ_ _=>False) C C (eC rZ C C) (λw f D=>(V8 w f D.vl b4 mb dl s (some ⟨ob,0,none⟩) oc D.res.1 D.mz dop dln dco dnm d O da dc oM hds2 hds3 oM D.f0).retP) (λ_=>He.stab) (λ_=>trivial) (λ_ _ _ _ _ h=>h.elim) ?_));rintro⟨oa5,oc5⟩ -;dsimp only;exact Aa 10 [] (And.intro lM<|And.intro ⟨oM,oM⟩<|λ_=>Df ((j+1,t++(ET (Be dl) d O s).1,(ET (Be dl) d O s).2,oa5,oc5)) (show dl.length-(j+1)<dl.length-j by omega) ⟨hme.trans (Y3 hx hdx oM),by have:=(Rl.data (ds:=dl) (s:=s) (tx:=d) (k:=O)).pre.length_le;show j+1≤(ET (Be dl) d O s).2.met.length;omega,Rl.gd (Rl.data (tx:=d) (k:=O)) hg,hsl0⟩ lE (λw f D=>⟨_,D.less (sK (sK (sK sZ))) sR nE (mR [1])⟩));refine Aa 3 [] (λ_=>Fh<|Aa 5 [] (λ_=>?_));have hml:=WO hg;have hjl:s.met.length≤j:=by have:=dF h6;omega
 have hrt:Kx dl L J k3=(t,s):=by unfold Kx;rw[hts];exact hme.trans (iO hjl oM)
 refine Aa 4 [] (λ_=>Dn C C (λw f D=>Ai C YY D.res.blk C)<|Aa 4 [] (λ_=>AN 76 C C (λh7=>?_) (λh7=>?_)));replace h7:=FE h7;refine Aa 2 [] (λ_=>CF [0,1] Al (rd [0,1,2] (.br 3 (.rd 4 .fin) .fin)) C kR<|A2 3 [0] (y<|λ_=>Ag C ?_ Aj));refine Aa 2 [2] (y<|λ_=>Au [0,1] C<|A2 1 [] (λ_=>Bm<|Aa 6 [] (λ_=>Z0<|Aa 2 [] (λ_=>?_))));have G:ZA nds=.error (Z,co3,17):=hof.trans (gI hop h5 hrt (by show (!s.keeps)=true;rw[h7];rfl));exact AR (λw f D=>DP C (Ah C) (Ac C Fa D.k2 C) (Ah C)) (λw f D=>⟨(none,0),f,(by rw[G];rfl),tQ,D.exm,⟨by rw[G];exact⟨Nat.le_refl _,.inl C⟩,tQ⟩⟩);replace h7:=FO h7;refine Aa 9 [] (λ_=>AN 84 C C (λh8=>?_) (λh8=>?_));refine Aa 2 [] (λ_=>CF [0,1] Al (rd [0,1,2] (.br 3 (.rd 4 .fin) .fin)) C kR<|A2 3 [0] (y<|λ_=>Ag C ?_ Aj));refine Aa 2 [2] (y<|λ_=>Au [0,1] C<|A2 1 [] (λ_=>Bm<|Aa 6 [] (λ_=>Z0<|Aa 2 [] (λ_=>?_))));have G:ZA nds=.error (Z,co3,4):=hof.trans (lW hop h5 hrt (by show (!s.keeps)=false;rw[h7];rfl) (by have:=dT h8;show 1000<t.length;omega));exact AR (λw f D=>DP C (Ah C) (Ac C Fa D.k2 C) (Ah C)) (λw f D=>⟨(none,0),f,(by rw[G];rfl),tQ,D.exm,⟨by rw[G];exact⟨Nat.le_refl _,.inl C⟩,tQ⟩⟩);exact Aa 4 [] (λ_=>mxx (λb=>b=mb) (iX mb dl) (λb h=>.inr (.inl h)) (λw f h=>h.map) (iX.stab C)<|Aa 7 [1] (y<|λb6=>λ_=>Dq 0 0 C C qap25 C C C C C C C C (λ_ _=>C) oM oM λra2 rc2=>Aa 8 [] (And.intro ⟨oM,oM⟩<|λ_=>Df ((i+1,r,(out++[(F,t)]),ra2,rc2)) (show r.len<(Nd.cons Q U Y F nm2 (.cons L Z co3 J nm3 k3 q3) r).len from Nat.lt_succ_self _) ⟨show i+1+r.len=_ by omega,hof.trans (wW hop h5 hrt (by show (!s.keeps)=false;rw[h7];rfl) (by have:=dF h8;show t.length≤1000;omega)),hrx.2.2,show r.size≤_ by omega,hro2.2,by show (out++[(F,t)]).length≤i+1;rw[List.length_append];simp;omega⟩ (lu6 C C (Eq.trans (b:=some (Value.slice ra2 (out.length+1) rc2)) C (by dsimp only;rw[List.length_append];rfl)) C C C) (λw f D=>⟨_,by have hM9:=D.less (sD (sD (sD (sK sZ)))) sR (B':=[]) (F':=[λw f=>AV w f (some ⟨eb,eo,none⟩) (i+1) r]) nE (mR [0]);dsimp only;rw[show (out++[(F,t)]).length=out.length+1 by rw[List.length_append];rfl,show bC (out++[(F,t)])=bC out++[S F,S t] by rw[SP.bC_app];rfl];exact hM9⟩))));refine Aa 3 [] (λ_=>Fh<|Aa 3 [] (λ_=>?_));obtain rfl:r=.nil:=Nd.len0 (by have:=dF h3;omega);have G:ZA nds=.ok out:=hof;exact P0 (λw f=>K3 w f out ra rc) K3.mono (λw f D=>eG D)<|Aa 9 [0] (y<|λ_=>AR (λw f D=>DP C (Ah C) (Ac C Fa D.k0 C) (Ah C)) (λw f D=>⟨(ra,rc),f,(by rw[G];rfl),tQ,D.exm,⟨by rw[G];exact D.f0,tQ⟩⟩))
end Go.Proofs.YtelmolopaolbcaaGreatDoor
