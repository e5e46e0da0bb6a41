/- SchemaFits: of all roots the law answers true: Fits tells whether one has another type; the order is nothing. -/
import Derived.Test.YtelmolopaolbcaaGreatDoorGg6
set_option linter.unusedVariables false
set_option linter.unusedSimpArgs false
namespace Go.SP
variable {s:CS}{co ln:Int}
theorem Uj{s1:CS}{e e1:Bb}{op:Int}{tx:lU}{k:Nd}{b:Option (lU×T1)}(h:Dq s e op ln co tx k=.ok (b,e1,s1)) :
   if op==41 then AS s.datas tx=none∧∃q,s1.datas=(tx,q)::s.datas else s1.datas=s.datas:=by
 unfold Dq at h
 split at h
 · rename_i h1
   rw[if_pos h1]
   split at h
   · cases h
   · rename_i s2 hd
     cases h
     unfold G3 at hd
     split at hd
     · cases hd
     · rename_i h2
       rw[Bool.or_eq_true,not_or] at h2
       split at hd
       · cases hd
       · simp only at hd
         split at hd
         · cases hd
         · cases hd
           exact⟨by cases hl:AS s.datas tx with|none=>rfl|some v=>rw[hl] at h2;exact absurd rfl h2.1,_,rfl⟩
 · rename_i h1
   rw[if_neg h1]
   split at h
   · cases h;rfl
   · split at h
     · split at h
       · cases h
       · split at h
         · cases h
         · split at h
           · cases h;rfl
           · split at h
             · cases h
             · rename_i hx
               split at h
               · cases h
               · rename_i hh
                 cases h
                 exact (Ef.has hh).2.1.trans (Ge Ef _ hx).2.1
     · split at h
       · split at h
         · cases h
         · rename_i hx
           split at h
           · cases h
           · cases h
             exact (Ge Ef _ hx).2.1
       · split at h
         · split at h
           · cases h
           · rename_i hx
             split at h
             · cases h
             · cases h
               exact (P6 Ef (Ge Ef _) hx).2.1
         · split at h
           · cases h
           · rename_i hx
             cases h
             exact (Ge Ef _ hx).2.1
theorem M7:∀(nds:Nd){s:CS}{e:Bb}{out:List (lU×T1)}{r:List (lU×T1)×CS},Ec s e nds out=.ok r→(∀p,p∈Cw nds→AS s.datas p.1=none)∧((Cw nds).map (·.1)).Nodup
 |.nil,_,_,_,_,_=>⟨(λ_ h=>by cases h),List.nodup_nil⟩
 |.cons op ln co tx nm k r,s,e,out,q,h=>by
   rw[Ec] at h
   have key:∀{b:Option (lU×T1)}{e1:Bb}{s1:CS}{out2:List (lU×T1)},Dq s e op ln co tx k=.ok (b,e1,s1)→Ec s1 e1 r out2=.ok q→(∀p,p∈Cw (.cons op ln co tx nm k r)→AS s.datas p.1=none)∧((Cw (.cons op ln co tx nm k r)).map (·.1)).Nodup:=by
     intro b e1 s1 out2 h1 h2;have hd:=Uj h1;have ih:=M7 r h2;rw[Cw]
     split at hd
     · rename_i h41
       rw[if_pos h41];obtain⟨hn,v,hs⟩:=hd
       have hr:∀p,p∈Cw r→AS s.datas p.1=none∧p.1≠tx:=λp hp=>by
         have h5:=ih.1 p hp;rw[hs,DB] at h5
         split at h5
         · cases h5
         · rename_i h6
           exact⟨h5,λe=>h6 (by rw[e];simp)⟩
       refine⟨λp hp=>?_,?_⟩
       · rcases List.mem_append.1 hp with hp|hp
         · exact (hr p hp).1
         · rw[List.mem_singleton.1 hp];exact hn
       · rw[List.map_append,List.nodup_append]
         refine⟨ih.2,by simp,λa ha b hb e=>?_⟩;obtain⟨p,hp,rfl⟩:=List.mem_map.1 ha;have hb:b=tx:=by simpa using hb
         exact (hr p hp).2 (e.trans hb)
     · rename_i h41
       rw[if_neg h41];rw[hd] at ih;exact ih
   split at h
   · cases h
   · rename_i h1;exact key h1 h
   · rename_i h1;exact key h1 h
theorem Wa{nds:Nd}{bs:List (lU×lU)}(h:CA nds=.ok bs):((Cw nds).map (·.1)).Nodup:=by
 unfold CA at h
 split at h
 · cases h
 · rename_i h1;exact (M7 nds h1).2
theorem Ru:∀{nds:Nd},nds.wft→Qq nds
 |.nil,_=>trivial
 |.cons op ln co tx nm k r,⟨h1,h2⟩=>by
   refine⟨λe=>?_,Ru h2⟩;rcases h1 with h|⟨_,h⟩|⟨h,_⟩
   · omega
   · obtain⟨_,_,_,_,_,_,_,rfl⟩:=Cr h dC
     exact λh=>by cases h
   · omega
end Go.SP
namespace Go.Proofs.YtelmolopaolbcaaGreatDoor
open Go.SW Go.SP Go.RowKit Go.Proofs.Tryz
theorem QZ(w:World)(f:Fq)(hv:Vl w f)(l:List lU)(a:Option Addr)(c:Nat)(n:lU)(hl:l.length≤1000000)(hI:Ie w f l a c) :
   Bo prog 70 #[.slice a l.length c,S n] w (Bx (α:=Unit) (λ_=>.int .i64 (J5 l n)) (λ_=>True) (λ_=>[]) w f):=by
 refine Cg (X:=X0 w f) (H:=[]) (R:=[]) (B:=[]) (Fs:=[λw f=>Ie w f l a c]) (f:=f) func70 rfl rfl rfl (BS hv ⟨hI,tQ⟩ ⟨Ie.mono,tQ⟩)<|Aa 14 [] (λ_=>?_);refine EZ (α:=Nat) (λi=>l.length-i) (λi=>i≤l.length∧(l.take i).contains n=false) (λi=>(E4 0 (.slice a l.length c) 1 (S n) 7 (.int .i64 (l.length:Int)) 8 (.int .i64 (i:Int)))) (λi=>X0 w f) (λi=>[]) (λi=>[]) (λi=>[]) (λi=>[λw f=>Ie w f l a c]) (0) ⟨oM,rfl⟩ lE (λw f hM=>hM) ?_;rintro i ⟨hi,hno⟩;refine Aa 6 [] (λ_=>AJ 9 rfl rfl (λh1=>?_) (λh1=>?_));refine Aa 12 [] (λ_=>?_);have hil:i<l.length:=by have:=of_decide_eq_true h1;omega
 obtain⟨v0,hx⟩:∃v,l[i]?=some v:=⟨_,List.getElem?_eq_getElem hil⟩;refine wK 0 rfl hx ?_;rintro⟨b,off⟩ rfl;refine Aa 9 [100,0] (And.intro oM<|y2<|λ_=>AJ 16 rfl rfl (λh2=>?_) (λh2=>?_));exact Aa 10 [] (λ_=>U3<|Aa 2 [] (λ_=>AL (C3 rfl rfl) (λw f hM=>⟨(),f,(by rw[Pv hno (by rw[hx,show v0=n from (beq_iff_eq.1 h2).symm])]),tQ,hM.exm,tQ⟩)));refine Aa 8 [] (And.intro ⟨oM,oM⟩<|λ_=>?_);have hno2:(l.take (i+1)).contains n=false:=by rw[BA hx];have h9:¬n=v0:=(by simpa using h2);have h8:n∉l.take i:=(by simpa using hno);simp[h8,h9]
 exact CY (i+1) (show l.length-(i+1)<l.length-i by omega) ⟨oM,hno2⟩ lE (λw f hM=>⟨_,hM.less sR sR nE (λ_ h=>h)⟩);refine Aa 3 [] (λ_=>EH<|Aa 8 [] (λ_=>?_));have hge:l.length≤i:=by have:=of_decide_eq_false h1;omega
 rw[List.take_of_length_le hge] at hno;exact AL (C3 rfl rfl) (λw f hM=>⟨(),f,(by rw[NF hno]),tQ,hM.exm,tQ⟩)
theorem Oz(w:World)(l:List lU)(a:Option Addr)(c:Nat)(n:lU)(hl:l.length≤1000000)(h:fH w l a c):Bo prog 70 #[.slice a l.length c,S n] w λv w'=>v=.int .i64 (J5 l n)∧AR w w' :=
 (QZ w (WL w) (Tq w) l a c n hl h.fz).mono λ_ _ ⟨_,_,h1,_,h2,_⟩=>⟨h1,h2.stp.ext⟩
theorem MY(w:World)(f:Fq)(hv:Vl w f)(l:List lU)(a:Option Addr)(c:Nat)(n:lU)(hl:l.length≤1000000)(hI:Ie w f l a c) :
   Bo prog 71 #[.slice a l.length c,S n] w (Bx (α:=Unit) (λ_=>.bool (l.contains n)) (λ_=>True) (λ_=>[]) w f):=by
 exact Cg (X:=X0 w f) (H:=[]) (R:=[]) (B:=[]) (Fs:=[λw f=>Ie w f l a c]) (f:=f) func71 rfl rfl rfl (BS hv ⟨hI,tQ⟩ ⟨Ie.mono,tQ⟩)<|Aa 9 [] (λ_=>CR rfl rfl (eC X9 rfl rfl) (λw f hM=>Oz w l a c n hl hM.f0.sw)<|Aa 5 [] (λ_=>AL (C3 rfl rfl) (λw f hM=>⟨(),f,(by rw[← (QH l n).2.2]),tQ,hM.exm,tQ⟩)))
theorem VE(w:World)(l:List lU)(a:Option Addr)(c:Nat)(n:lU)(hl:l.length≤1000000)(h:fH w l a c):Bo prog 71 #[.slice a l.length c,S n] w λv w'=>v=.bool (l.contains n)∧AR w w' :=
 (MY w (WL w) (Tq w) l a c n hl h.fz).mono λ_ _ ⟨_,_,h1,_,h2,_⟩=>⟨h1,h2.stp.ext⟩
set_option maxHeartbeats 2000000 in
theorem Vu(m:Nat)(ih:rD prog 72 98 9 m)(w:World)(f:Fq)(hv:Vl w f)(wb mb:Nat)(ds:List (lU×Nd))(s:H4)(oa:Option Addr)(oc:Nat)(hW:LI 98 9 wb mb ds s oa oc w f)(hf:∀b,Fm wb mb oa b→f b=0)(op ln co nm:Int)(tx:lU)(k:Nd)(na:Option Addr)(nc:Nat)(vs:List lU)(va:Option Addr)(vc:Nat)(hm:k.size<m+1)(hsz:k.size≤200000)(htx:tx.length≤100000)(hkx:k.txb)(hml:s.met.length+k.size+1≤1000000)(hvl:vs.length≤1000000)(hN:AD w f k na nc)(hV:Ie w f vs va vc) :
   Bo prog 34 #[.pointer (some ⟨wb,0,none⟩),.agg #[.int .i64 op,.int .i64 ln,.int .i64 co,S tx,.int .i64 nm,.slice na k.len nc],.slice va vs.length vc] w (JV (α:=Option Addr×Nat) (λ_=>S (Da (Bg ds) vs op tx k s).1) (λ_=>True) (Fm wb mb oa) (λx=>Fm wb mb x.1) (λx=>LI 98 9 wb mb ds (Da (Bg ds) vs op tx k s).2 x.1 x.2) (λ_=>[]) w f):=by
 have hkl:=Nd.len_le k;refine Cg (X:=⟨Fm wb mb oa,Fm wb mb oa,LI 98 9 wb mb ds s oa oc,w,f⟩) (H:=[]) (R:=[]) (B:=[]) (Fs:=[λw f=>AD w f k na nc,λw f=>Ie w f vs va vc]) (f:=f) func34 rfl rfl rfl (RZ (M:=Fm wb mb oa) hv hW Gt.stab (λb hb=>⟨hW.lt hb,hf b hb⟩) ⟨hN,hV,tQ⟩ ⟨AD.mono,Ie.mono,tQ⟩)<|Aa 14 [0] (λb1=>y<|λ_=>AJ 11 rfl rfl (λh1=>?_) (λh1=>?_));refine Aa 2 [] (λ_=>?_);have hib:=QH vs tx;have hel:=UT (97+J5 vs tx);exact Aa 4 [0] (y<|λ_=>CR rfl rfl (eC X9 rfl rfl) (λw f hM=>Oz w vs va vc tx hvl hM.f1.sw)<|Aa 1 [] (And.intro ⟨oM,oM⟩<|λ_=>D6 rfl rfl (λw f hM=>Dg (m:=97+J5 vs tx) rfl UI (dW ⟨oM,oM⟩))<|D6 rfl rfl (λw f hM=>Yb (l:=(Utf8.encode (97+J5 vs tx)).data.toList) rfl kR (iK _))<|Aa 6 [] (And.intro (by first|omega|(simp only[List.length_cons,List.length_append,List.length_nil];omega))<|λ_=>AL (C3 rfl rfl) (λw f hM=>⟨(oa,oc),f,(by rw[Da,if_pos h1];rfl),tQ,hM.exm,(λb hb=>let ⟨h1,h2,h3⟩:=hM.mi b hb;h3.elim (λh=>.inr ⟨h,h1,h2⟩) .inl),(by rw[Da,if_pos h1];exact hM.res),tQ⟩))));refine Aa 5 [] (λ_=>?_);refine Nv (α:=Bool) (λx=>x=Bg ds tx) (λx=>(E4 0 (.pointer (some ⟨wb,0,none⟩)) 2 (.slice va vs.length vc) 4 (.pointer (some ⟨b1,0,none⟩)) 8 (.bool x))) (λx=>⟨Fm wb mb oa,Fm wb mb oa,LI 98 9 wb mb ds s oa oc,w,f⟩) (λx=>[⟨b1,[.int .i64 op,.int .i64 ln,.int .i64 co,S tx,.int .i64 nm,.slice na k.len nc],74,true⟩]) (λx=>[]) (λx=>[]) (λx=>[λw f=>AD w f k na nc,λw f=>Ie w f vs va vc]) ?_ ?_;refine fY (λes w f=>LI 98 9 wb mb ds s oa oc w f∧BF BN w mb es∧FJ w f ds es∧Ir es) (λw f h=>let ⟨es,h1,h2,h3⟩:=h.map;⟨es,h,h1,h2,h3⟩) (λes w f w' f' h hF hb=>⟨Gt.stab w f w' f' h.1 hF hb,h.2.1.heap (hb _ (.inr (.inl rfl))),FJ.mono hF _ _ h.2.2.1,h.2.2.2⟩) λes=>Ig (λw f hM=>hM.res.2.2.2) λhdis=>?_
 cases hdl:AS ds tx with
 |none =>
   refine Ig (λw f hM=>(FJ.look hM.res.2.2.1).1 hdl) λhlk=>Ki (λw=>AI w wb [.map (some mb),.slice oa s.met.length oc,.bool s.keeps] 98∧BF BN w mb es) (λw f h _=>⟨h.1.blk,h.2.1⟩) [0] Ak (rd [0,1,2,3,4,5,6,7,8,9] (.br 10 (.br 11 (.rd 12 .fin) .fin) .fin)) rfl kR kR kR (λ_ _ _ _ _ h=>h)<|A1 3 [] (λ_=>F6 rfl rfl rfl (λw hK=>Ai rfl fJ hK.2.2.1 rfl)<|A1 2 [0] (y<|λ_=>F6 rfl rfl rfl (λw hK=>I1 (K:=BN) (a:=tx) rfl rfl UC FH Xa hK.2.2.2 hdis hlk)<|A1 3 [] (λ_=>Af rfl ?_ Aj)));refine Aa 2 [] (λb2=>λ_=>AW [1] (λw f h _=>⟨h.1.blk,h.2.1⟩) rfl (λ_ h=>h)<|Af rfl ?_ Aj);exact Aa 2 [0] (y<|λ_=>AW [1] (λw f h _=>⟨h.1.blk,h.2.1⟩) rfl (λ_ h=>h)<|A1 1 [] (λ_=>Bf<|HE false (by rw[Bg,hdl];rfl) lE (λw1 f1 hM=>⟨f1,({hM with res:=hM.res.1,stab:=Gt.stab}:AO ⟨Fm wb mb oa,Fm wb mb oa,LI 98 9 wb mb ds s oa oc,w,f⟩ w1 f1 _ _ _ _).less (sD (sK sZ)) sR nE (λ_ h=>h)⟩)))
 |some dx =>
   refine Kb (α:=Int×Int×Int×Int×Option Addr×Nat) (λx=>Em es tx=some (.agg (Kd x.1 x.2.1 x.2.2.1 tx x.2.2.2.1 x.2.2.2.2.1 dx.len x.2.2.2.2.2).toArray)) (λx=>[]) (λx=>[]) (λw f hM=>let ⟨a1,a2,a3,a4,a5,a6,h1,_⟩:=(FJ.look hM.res.2.2.1).2 dx hdl;⟨(a1,a2,a3,a4,a5,a6),h1,nE,nE⟩) (λx _ h=>by cases h) ?_;rintro⟨op2,ln2,co2,nm2,na2,nc2⟩ hlk;refine Ki (λw=>AI w wb [.map (some mb),.slice oa s.met.length oc,.bool s.keeps] 98∧BF BN w mb es) (λw f h _=>⟨h.1.blk,h.2.1⟩) [0] Ak (rd [0,1,2,3,4,5,6,7,8,9] (.br 10 (.br 11 (.rd 12 .fin) .fin) .fin)) rfl kR kR kR (λ_ _ _ _ _ h=>h)<|A1 3 [] (λ_=>F6 rfl rfl rfl (λw hK=>Ai rfl fJ hK.2.2.1 rfl)<|A1 2 [0] (y<|λ_=>F6 rfl rfl rfl (λw hK=>IW (K:=BN) (a:=tx) rfl rfl UC FH Xa hK.2.2.2 hdis hlk)<|A1 3 [] (λ_=>Af rfl ?_ Aj)));refine Aa 2 [] (λb3=>λ_=>AW [1] (λw f h _=>⟨h.1.blk,h.2.1⟩) rfl (λ_ h=>h)<|Af rfl ?_ Aj);exact Aa 2 [0] (y<|λ_=>AW [1] (λw f h _=>⟨h.1.blk,h.2.1⟩) rfl (λ_ h=>h)<|A1 1 [] (λ_=>Bf<|HE true (by rw[Bg,hdl];rfl) lE (λw1 f1 hM=>⟨f1,({hM with res:=hM.res.1,stab:=Gt.stab}:AO ⟨Fm wb mb oa,Fm wb mb oa,LI 98 9 wb mb ds s oa oc,w,f⟩ w1 f1 _ _ _ _).less (sD (sK sZ)) sR nE (λ_ h=>h)⟩)))
 rintro dk hdk;refine Aa 2 [] (λ_=>?_);refine Nv (α:=Bool) (λx=>x=(dk&&!s.met.contains tx)) (λx=>(E4 0 (.pointer (some ⟨wb,0,none⟩)) 2 (.slice va vs.length vc) 4 (.pointer (some ⟨b1,0,none⟩)) 40 (.bool x))) (λx=>⟨Fm wb mb oa,Fm wb mb oa,LI 98 9 wb mb ds s oa oc,w,f⟩) (λx=>[⟨b1,[.int .i64 op,.int .i64 ln,.int .i64 co,S tx,.int .i64 nm,.slice na k.len nc],74,true⟩]) (λx=>[]) (λx=>[]) (λx=>[λw f=>AD w f k na nc,λw f=>Ie w f vs va vc]) ?_ ?_;refine Ki (λw=>AI w wb [.map (some mb),.slice oa s.met.length oc,.bool s.keeps] 98) (λw f h _=>h.blk) [0] Ak (rd [0,1,2,3,4,5,6,7] (.br 8 (.rd 9 (.rd 10 .fin)) .fin)) rfl kR kR kR (λ_ _ _ _ _ h=>h)<|A1 2 [] (λ_=>Iq 31 rfl (λh2=>?_) (λh2=>?_));refine A1 3 [] (λ_=>F6 rfl rfl rfl (λw hK=>Ai rfl L7 hK.2.2 rfl)<|A1 2 [0] (y<|λ_=>Af rfl ?_ Aj));exact CR rfl rfl (eC iO rfl rfl) (λw f hM=>VE w s.met oa oc tx oM (fH.row hM.res.row))<|Aa 1 [] (λ_=>AW [0] (λw f h _=>h.blk) rfl (λ_ h=>h)<|A1 2 [] (λ_=>Bf<|HE (!s.met.contains tx) (by rw[h2];rfl) lE (λw f hM=>⟨f,hM.less (sK sZ) sR nE (λ_ h=>h)⟩)));refine A1 6 [] (λ_=>Af rfl ?_ Aj);exact Aa 2 [] (λ_=>AW [0] (λw f h _=>h.blk) rfl (λ_ h=>h)<|A1 2 [] (λ_=>Bf<|HE false (by rw[h2];rfl) lE (λw f hM=>⟨f,hM.less (sK sZ) sR nE (λ_ h=>h)⟩)));rintro nw hnw;refine Aa 1 [] (λ_=>?_);refine Nv (α:=Option Addr×Nat) (λx=>True) (λx=>(E3 0 (.pointer (some ⟨wb,0,none⟩)) 2 (.slice va vs.length vc) 4 (.pointer (some ⟨b1,0,none⟩)))) (λx=>⟨Fm wb mb oa,Fm wb mb x.1,Gt 98 9 wb mb ds (.slice x.1 (Cl (Bg ds) tx s).met.length x.2) (.bool s.keeps) x.1 x.2 (Cl (Bg ds) tx s).met,w,f⟩) (λx=>[⟨b1,[.int .i64 op,.int .i64 ln,.int .i64 co,S tx,.int .i64 nm,.slice na k.len nc],74,true⟩]) (λx=>[]) (λx=>[]) (λx=>[λw f=>AD w f k na nc,λw f=>Ie w f vs va vc]) ?_ ?_;refine AJ 40 rfl rfl (λh3=>?_) (λh3=>?_);refine Aa 1 [] (λ_=>Cv [0] Ak (rd [0,1,2,3,5,6] (.br 4 (.br 7 (.br 8 (.rd 9 (.rd 10 (.br 11 .fin .fin))) .fin) .fin) (.br 7 (.br 4 (.br 8 (.rd 9 (.rd 10 (.br 11 .fin .fin))) .fin) .fin) .fin))) rfl kR<|A1 6 [0] (y<|λ_=>Af rfl ?_ ?_));refine D6 rfl rfl (λw f hM=>Ai rfl L7 hM.res.blk rfl)<|Aa 1 [] (λ_=>Au [0] rfl<|Af rfl ?_ Aj);refine Aa 2 [] (λb4=>λ_=>Au [1] rfl<|Af rfl ?_ Aj);refine MA (MI':=Fm wb mb) (I':=λa' c'=>Gt 98 9 wb mb ds (.slice oa s.met.length oc) (.bool s.keeps) a' c' (s.met++[tx])) 0 rfl rfl QS rfl rfl rfl rfl rfl rfl rfl oM oM (λw f h=>h.row) (λb h=>.inr (.inr h)) (λ_ _ h=>Fm.or h) (λw f w2 a2 c2 h hM hr hG=>Gt.app h (En.fle hG hM.val (λb hb=>(hM.mi b (.inr (.inr hb))).2.1)) hr hG) (λ_ _=>Gt.stab) λa2 c2=>Aa 1 [] (λ_=>Au [1] rfl<|A1 2 [] (λ_=>Af rfl ?_ Aj));refine SJ (b:=wb) (I':=Gt 98 9 wb mb ds (.slice a2 (s.met.length+1) c2) (.bool s.keeps) a2 c2 (s.met++[tx])) rfl rfl rfl rfl L7 rfl rfl rfl (.inl rfl) (λw f h=>h.blk) (λw f w2 h hM hC hb=>Gt.store h (KB hC (hM.mi _ (.inl rfl)).2.1) hC hb) Gt.stab<|Aa 1 [] (λ_=>Au [1] rfl<|Bf ?_)
 have hmt:(Cl (Bg ds) tx s).met=s.met++[tx]:=by rw[Cl,← hdk];simp only[← hnw,h3];rfl
 exact HE (a2,c2) tQ lE (λw f hM=>⟨f,by dsimp only;rw[hmt];rw[show (s.met++[tx]).length=s.met.length+1 by simp];exact hM.less (sD (sK sZ)) sR nE (λ_ h=>h)⟩);refine Af rfl ?_ Aj;refine Aa 2 [] (λb5=>λ_=>Au [1] rfl<|Af rfl ?_ Aj);refine D6 rfl rfl (λw f hM=>Ai rfl L7 hM.res.blk rfl)<|Aa 1 [] (λ_=>Au [1] rfl<|Af rfl ?_ Aj);refine MA (MI':=Fm wb mb) (I':=λa' c'=>Gt 98 9 wb mb ds (.slice oa s.met.length oc) (.bool s.keeps) a' c' (s.met++[tx])) 0 rfl rfl QS rfl rfl rfl rfl rfl rfl rfl oM oM (λw f h=>h.row) (λb h=>.inr (.inr h)) (λ_ _ h=>Fm.or h) (λw f w2 a2 c2 h hM hr hG=>Gt.app h (En.fle hG hM.val (λb hb=>(hM.mi b (.inr (.inr hb))).2.1)) hr hG) (λ_ _=>Gt.stab) λa2 c2=>Aa 1 [] (λ_=>Au [1] rfl<|A1 2 [] (λ_=>Af rfl ?_ Aj));refine SJ (b:=wb) (I':=Gt 98 9 wb mb ds (.slice a2 (s.met.length+1) c2) (.bool s.keeps) a2 c2 (s.met++[tx])) rfl rfl rfl rfl L7 rfl rfl rfl (.inl rfl) (λw f h=>h.blk) (λw f w2 h hM hC hb=>Gt.store h (KB hC (hM.mi _ (.inl rfl)).2.1) hC hb) Gt.stab<|Aa 1 [] (λ_=>Au [1] rfl<|Bf ?_);have hmt:(Cl (Bg ds) tx s).met=s.met++[tx]:=by rw[Cl,← hdk];simp only[← hnw,h3];rfl
 exact HE (a2,c2) tQ lE (λw f hM=>⟨f,by dsimp only;rw[hmt];rw[show (s.met++[tx]).length=s.met.length+1 by simp];exact hM.less (sD (sK sZ)) sR nE (λ_ h=>h)⟩);refine Aa 2 [] (λ_=>?_);have hmt:(Cl (Bg ds) tx s).met=s.met:=by rw[Cl,← hdk];simp only[← hnw,h3];rfl
 exact HE (oa,oc) tQ lE (λw f hM=>⟨f,by dsimp only;rw[hmt];exact hM.less (sK sZ) sR nE (λ_ h=>h)⟩);rintro⟨oa2,oc2⟩ -;dsimp only;refine Aa 2 [] (λ_=>?_);refine Nv (α:=Bool) (λx=>x=(Cl (Bg ds) tx s).keeps) (λx=>(E3 0 (.pointer (some ⟨wb,0,none⟩)) 2 (.slice va vs.length vc) 4 (.pointer (some ⟨b1,0,none⟩)))) (λx=>⟨Fm wb mb oa,Fm wb mb oa2,Gt 98 9 wb mb ds (.slice oa2 (Cl (Bg ds) tx s).met.length oc2) (.bool x) oa2 oc2 (Cl (Bg ds) tx s).met,w,f⟩) (λx=>[⟨b1,[.int .i64 op,.int .i64 ln,.int .i64 co,S tx,.int .i64 nm,.slice na k.len nc],74,true⟩]) (λx=>[]) (λx=>[]) (λx=>[λw f=>AD w f k na nc,λw f=>Ie w f vs va vc]) ?_ ?_;refine Aa 5 [] (λ_=>D6 rfl rfl (λw f hM=>Ai rfl VK hM.res.blk rfl)<|Aa 1 [] (λ_=>AJ 57 rfl rfl (λh4=>?_) (λh4=>?_)));refine Aa 5 [0] (y<|λ_=>AJ 62 rfl rfl (λh5=>?_) (λh5=>?_));exact Aa 6 [0] (y<|λ_=>SJ (b:=wb) (I':=Gt 98 9 wb mb ds (.slice oa2 (Cl (Bg ds) tx s).met.length oc2) (.bool (!(tx==[114,101,102]))) oa2 oc2 (Cl (Bg ds) tx s).met) rfl rfl rfl rfl VK rfl rfl rfl (.inl rfl) (λw f h=>h.blk) (λw f w2 h hM hC hb=>Gt.store h (KB hC (hM.mi _ (.inl rfl)).2.1) hC hb) Gt.stab<|Aa 1 [] (λ_=>HE (!(tx==[114,101,102])) (by show _=(s.keeps&&!(tx==Ei)&&!(tx==I6));rw[h4,show (!(tx==Ei))=_ from h5];rfl) lE (λw f hM=>⟨f,hM⟩)));exact Aa 6 [] (λ_=>SJ (b:=wb) (I':=Gt 98 9 wb mb ds (.slice oa2 (Cl (Bg ds) tx s).met.length oc2) (.bool false) oa2 oc2 (Cl (Bg ds) tx s).met) rfl rfl rfl rfl VK rfl rfl rfl (.inl rfl) (λw f h=>h.blk) (λw f w2 h hM hC hb=>Gt.store h (KB hC (hM.mi _ (.inl rfl)).2.1) hC hb) Gt.stab<|Aa 1 [] (λ_=>HE false (by show _=(s.keeps&&!(tx==Ei)&&!(tx==I6));rw[h4,show (!(tx==Ei))=_ from h5];rfl) lE (λw f hM=>⟨f,hM⟩)));exact Aa 11 [] (λ_=>SJ (b:=wb) (I':=Gt 98 9 wb mb ds (.slice oa2 (Cl (Bg ds) tx s).met.length oc2) (.bool false) oa2 oc2 (Cl (Bg ds) tx s).met) rfl rfl rfl rfl VK rfl rfl rfl (.inl rfl) (λw f h=>h.blk) (λw f w2 h hM hC hb=>Gt.store h (KB hC (hM.mi _ (.inl rfl)).2.1) hC hb) Gt.stab<|Aa 1 [] (λ_=>HE false (by show _=(s.keeps&&!(tx==Ei)&&!(tx==I6));rw[h4];rfl) lE (λw f hM=>⟨f,hM⟩)));rintro kp2 rfl;refine Aa 10 [0] (y<|λ_=>AJ 72 rfl rfl (λh6=>?_) (λh6=>?_));refine Aa 10 [0] (y<|λ_=>?_);have hts:Da (Bg ds) vs op tx k s=(tx,(Cl (Bg ds) tx s)):=by rw[Da,if_neg (by rw[h1];decide),if_pos (by have:=eq_of_beq h6;omega)]
 exact AL (C3 rfl rfl) (λw f hM=>⟨(oa2,oc2),f,(by rw[hts]),tQ,hM.exm,(λb hb=>let ⟨h1,h2,h3⟩:=hM.mi b hb;h3.elim (λh=>.inr ⟨h,h1,h2⟩) .inl),(by rw[hts];exact hM.res),tQ⟩);refine Aa 4 [] (λ_=>?_);have hal:=DZ (Bg ds) vs k (Cl (Bg ds) tx s);have hcp:=Nd.cap_le k hkx;have hmm:=N8 (Bg ds) tx s;refine Cv [0] Ak (rd [0,1,2,3,4,5,6] (.br 7 (rd [8,9,10] .fin) .fin)) rfl kR<|A1 7 [0,0] (y<|And.intro (by first|omega|(simp only[List.length_cons,List.length_append,List.length_nil];omega))<|y<|λ_=>Af rfl ?_ Aj);refine S5 (XX:=λ_ _=>False) rfl rfl (eC TY rfl rfl) (λw f hM=>(ih w f hM.vl wb mb ds (Cl (Bg ds) tx s) oa2 oc2 hM.res hM.mz k na nc vs va vc oM hsz hkx oM hvl hM.f0 hM.f1).retP) (λ_=>Gt.stab) (λ_=>trivial) (λ_ _ _ _ _ h=>h.elim) ?_;rintro⟨oa3,oc3⟩ -;refine Aa 1 [] (λ_=>Au [0] rfl<|A1 3 [] (And.intro (by first|omega|(simp only[List.length_cons,List.length_append,List.length_nil];omega))<|And.intro (by first|omega|(simp only[List.length_cons,List.length_append,List.length_nil];omega))<|λ_=>Bf<|Aa 2 [] (λ_=>?_)));have hts:Da (Bg ds) vs op tx k s=([40]++tx++(allS (Bg ds) vs k (Cl (Bg ds) tx s)).1++[41],(allS (Bg ds) vs k (Cl (Bg ds) tx s)).2):=by rw[Da,if_neg (by rw[h1];decide),if_neg (by have:=ne_of_beq_false h6;omega)]
 exact AL (C3 rfl rfl) (λw f hM=>⟨(oa3,oc3),f,(by rw[hts]),tQ,hM.exm,(λb hb=>let ⟨h1,h2,h3⟩:=hM.mi b hb;h3.elim (λh=>.inr ⟨h,h1,h2⟩) .inl),(by rw[hts];exact hM.res),tQ⟩)
set_option maxHeartbeats 2000000 in
theorem Rk(m:Nat)(ih:U9 prog 34 98 9 m)(w:World)(f:Fq)(hv:Vl w f)(wb mb:Nat)(ds:List (lU×Nd))(s:H4)(oa:Option Addr)(oc:Nat)(hW:LI 98 9 wb mb ds s oa oc w f)(hf:∀b,Fm wb mb oa b→f b=0)(k:Nd)(na:Option Addr)(nc:Nat)(vs:List lU)(va:Option Addr)(vc:Nat)(hm:k.size≤m)(hsz:k.size≤200000)(hkx:k.txb)(hml:s.met.length+k.size≤1000000)(hvl:vs.length≤1000000)(hN:AD w f k na nc)(hV:Ie w f vs va vc) :
   Bo prog 72 #[.pointer (some ⟨wb,0,none⟩),.slice na k.len nc,.slice va vs.length vc] w (JV (α:=Option Addr×Nat) (λ_=>S (allS (Bg ds) vs k s).1) (λ_=>True) (Fm wb mb oa) (λx=>Fm wb mb x.1) (λx=>LI 98 9 wb mb ds (allS (Bg ds) vs k s).2 x.1 x.2) (λ_=>[]) w f):=by
 have hkl:=Nd.len_le k;refine Cg (X:=⟨Fm wb mb oa,Fm wb mb oa,LI 98 9 wb mb ds s oa oc,w,f⟩) (H:=[]) (R:=[]) (B:=[]) (Fs:=[λw f=>AD w f k na nc,λw f=>Ie w f vs va vc]) (f:=f) func72 rfl rfl rfl (RZ (M:=Fm wb mb oa) hv hW Gt.stab (λb hb=>⟨hW.lt hb,hf b hb⟩) ⟨hN,hV,tQ⟩ ⟨AD.mono,Ie.mono,tQ⟩)<|Aa 19 [] (λ_=>?_);refine EZ (α:=Nat×Nd×lU×H4×Option Addr×Nat) (λx=>x.2.1.len) (λx=>x.1+x.2.1.len=k.len∧allS (Bg ds) vs k s=(x.2.2.1++(allS (Bg ds) vs x.2.1 x.2.2.2.1).1,(allS (Bg ds) vs x.2.1 x.2.2.2.1).2)∧x.2.2.1.length+x.2.1.cap≤k.cap∧x.2.2.2.1.met.length+x.2.1.size≤s.met.length+k.size∧x.2.1.txb∧x.2.1.size≤k.size) (λx=>(E6 0 (.pointer (some ⟨wb,0,none⟩)) 2 (.slice va vs.length vc) 7 (S x.2.2.1) 10 (.slice na k.len nc) 11 (.int .i64 (k.len:Int)) 12 (.int .i64 (x.1:Int)))) (λx=>⟨Fm wb mb oa,Fm wb mb x.2.2.2.2.1,LI 98 9 wb mb ds x.2.2.2.1 x.2.2.2.2.1 x.2.2.2.2.2,w,f⟩) (λx=>[]) (λx=>[]) (λx=>[]) (λx=>[λw f=>AU w f na x.1 x.2.1,λw f=>Ie w f vs va vc]) (0,k,[],s,oa,oc) ⟨Nat.zero_add _,rfl,by simp,Nat.le_refl _,hkx,Nat.le_refl _⟩ lE (λw f hM=>hM.more (B':=[]) (F':=[λw f=>AU w f na 0 k]) nE (AE.mem ⟨AD.at hM.f0,tQ⟩) (Aw.mem ⟨AU.mono,tQ⟩) |>.less sR sR nE (mR [0,2])) ?_;rintro⟨i,r,t2,s2,oa2,oc2⟩ ⟨hi,hal,htl,hml2,hrx,hrs⟩;dsimp only at hi hal htl hml2 hrx hrs ⊢;refine Aa 6 [] (λ_=>AJ 13 rfl rfl (λh1=>?_) (λh1=>?_));refine Aa 6 [] (λ_=>?_);have hil:i<k.len:=by have:=of_decide_eq_true h1;omega
 obtain⟨op2,ln2,co2,tx2,nm2,k2,r,rfl⟩:=Nd.cases1 r oM;have hi2:i+(r.len+1)=k.len:=hi;have hrs2:k2.size+r.size+1≤k.size:=hrs;have hml3:s2.met.length+(k2.size+r.size+1)≤s.met.length+k.size:=hml2;have htl2:t2.length+(tx2.length+8+k2.cap+r.cap)≤k.cap:=htl;have htn:=O0 (Bg ds) vs op2 tx2 k2 s2;have hcp:=Nd.cap_le k hkx;refine HD 0 rfl ?_;rintro⟨eb,eo,ka,kc⟩ rfl;refine Aa 12 [100,0,0,0] (And.intro oM<|y2<|λb1=>y<|y<|λ_=>S5 (XX:=λ_ _=>False) rfl rfl (eC Zh rfl rfl) (λw f hM=>(ih w f hM.vl wb mb ds s2 oa2 oc2 hM.res hM.mz op2 ln2 co2 nm2 tx2 k2 ka kc vs va vc oM oM hrx.1 hrx.2.1 oM hvl hM.f0 hM.f3).retP) (λ_=>Gt.stab) (λ_=>trivial) (λ_ _ _ _ _ h=>h.elim) ?_);rintro⟨oa3,oc3⟩ -;exact Aa 10 [] (And.intro (by first|omega|(simp only[List.length_cons,List.length_append,List.length_nil];omega))<|And.intro (by first|omega|(simp only[List.length_cons,List.length_append,List.length_nil];omega))<|And.intro ⟨oM,oM⟩<|λ_=>CY ((i+1,r,t2++([32]++(Da (Bg ds) vs op2 tx2 k2 s2).1),(Da (Bg ds) vs op2 tx2 k2 s2).2,oa3,oc3)) (show r.len<(Nd.cons op2 ln2 co2 tx2 nm2 k2 r).len from Nat.lt_succ_self _) ⟨show i+1+r.len=_ by omega,hal.trans (by rw[OH];simp),show (t2++([32]++(Da (Bg ds) vs op2 tx2 k2 s2).1)).length+r.cap≤_ by simp only[List.length_append,List.length_cons,List.length_nil];omega,show (Da (Bg ds) vs op2 tx2 k2 s2).2.met.length+r.size≤_ by omega,hrx.2.2,show r.size≤_ by omega⟩ lE (λw f hM=>⟨_,hM.less (List.nil_sublist _) sR (B':=[]) nE (mR [1,3])⟩));refine Aa 3 [] (λ_=>EH<|Aa 9 [] (λ_=>?_));obtain rfl:r=.nil:=Nd.len0 (by have:=of_decide_eq_false h1;omega);have hal2:allS (Bg ds) vs k s=(t2,s2):=by rw[hal];simp[SP.allS]
 exact AL (C3 rfl rfl) (λw f hM=>⟨(oa2,oc2),f,(by rw[hal2]),tQ,hM.exm,(λb hb=>let ⟨h1,h2,h3⟩:=hM.mi b hb;h3.elim (λh=>.inr ⟨h,h1,h2⟩) .inl),(by rw[hal2];exact hM.res),tQ⟩)
theorem Ns(m:Nat):U9 prog 34 98 9 m∧rD prog 72 98 9 m:=by
 induction m with
 |zero =>
   have h:U9 prog 34 98 9 0:=λ_ _ _ _ _ _ _ _ _ _ _ _ _ _ _ _ _ _ _ _ _ _ h=>absurd h (Nat.not_lt_zero _);exact⟨h,λw f hv wb mb ds s oa oc hW hf k na nc vs va vc h1 h2 h3 h4 h5 h6 h7=>Rk 0 h w f hv wb mb ds s oa oc hW hf k na nc vs va vc h1 h2 h3 h4 h5 h6 h7⟩
 |succ m ih =>
   have h:U9 prog 34 98 9 (m+1):=λw f hv wb mb ds s oa oc hW hf op ln co nm tx k na nc vs va vc h1 h2 h3 h4 h5 h6 h7 h8=>Vu m ih.2 w f hv wb mb ds s oa oc hW hf op ln co nm tx k na nc vs va vc h1 h2 h3 h4 h5 h6 h7 h8;exact⟨h,λw f hv wb mb ds s oa oc hW hf k na nc vs va vc h1 h2 h3 h4 h5 h6 h7=>Rk (m+1) h w f hv wb mb ds s oa oc hW hf k na nc vs va vc h1 h2 h3 h4 h5 h6 h7⟩
theorem Uh(w:World)(f:Fq)(hv:Vl w f)(a:Option Addr)(c:Nat)(s:lU) :
   Bo prog 73 #[.slice a 0 c,S s] w (Bx (α:=Unit) (λ_=>S []) (λ_=>True) (λ_=>[]) w f):=by
 exact Cg (X:=X0 w f) (H:=[]) (R:=[]) (B:=[]) (Fs:=[]) (f:=f) func73 rfl rfl rfl (BS hv tQ tQ)<|Aa 28 [] (λ_=>AL (C3 rfl rfl) (λw f hM=>⟨(),f,rfl,tQ,hM.exm,tQ⟩))
theorem SN(w:World)(f:Fq)(hv:Vl w f)(a:Option Addr)(c:Nat)(l:List lU)(s:lU)(h:Ie w f l a c)(hN:l.length≤1000000)(hlen:(Lib.join l s).length≤140737488355328):Bo prog 73 #[.slice a l.length c,S s] w (Bx (α:=Unit) (λ_=>S (Lib.join l s)) (λ_=>True) (λ_=>[]) w f):=by
 cases l with
 |nil=>exact Uh w f hv a c s
 |cons x l =>
   rcases h.2 with h|⟨b,off,rfl,h2⟩
   · cases h
   · exact OO w f hv b off c (x::l) s h2 (Nat.zero_lt_succ _) hN h.1 hlen
set_option maxHeartbeats 2000000 in
theorem TQ(w:World)(f:Fq)(hv:Vl w f)(wb mb:Nat)(ds:List (lU×Nd))(s:H4)(oa:Option Addr)(oc:Nat)(hW:LI 98 9 wb mb ds s oa oc w f)(hf:∀b,Fm wb mb oa b→f b=0)(op ln co nm:Int)(tx:lU)(k:Nd)(na:Option Addr)(nc:Nat)(hsz:k.size≤200000)(htx:tx.length≤100000)(hkx:k.txb)(hml:s.met.length+k.size≤1000000)(hN:AD w f k na nc) :
   Bo prog 35 #[.pointer (some ⟨wb,0,none⟩),.agg #[.int .i64 op,.int .i64 ln,.int .i64 co,S tx,.int .i64 nm,.slice na k.len nc]] w (JV (α:=Option Addr×Nat) (λ_=>S (Gb (Bg ds) tx k s).1) (λ_=>True) (Fm wb mb oa) (λx=>Fm wb mb x.1) (λx=>LI 98 9 wb mb ds (Gb (Bg ds) tx k s).2 x.1 x.2) (λ_=>[]) w f):=by
 have hkl:=Nd.len_le k;have hNc:=hN.1;refine Cg (X:=⟨Fm wb mb oa,Fm wb mb oa,LI 98 9 wb mb ds s oa oc,w,f⟩) (H:=[]) (R:=[]) (B:=[]) (Fs:=[λw f=>AD w f k na nc]) (f:=f) func35 rfl rfl rfl (RZ (M:=Fm wb mb oa) hv hW Gt.stab (λb hb=>⟨hW.lt hb,hf b hb⟩) ⟨hN,tQ⟩ ⟨AD.mono,tQ⟩)<|Aa 17 [] (λb1=>λ_=>?_);refine Nv (α:=Nat×Nd×Nd×List lU×Option Addr×Nat) (λx=>x.1+x.2.2.1.len=k.len∧C5 k=(x.2.2.2.1,x.2.1,x.2.2.1)∧x.2.2.2.1.length=x.1∧x.2.1.len=x.1∧k=x.2.1.app x.2.2.1) (λx=>(E4 0 (.pointer (some ⟨wb,0,none⟩)) 3 (.pointer (some ⟨b1,0,none⟩)) 5 (.int .i64 (x.1:Int)) 6 (.slice x.2.2.2.2.1 x.2.2.2.1.length x.2.2.2.2.2))) (λx=>⟨Fm wb mb oa,Fm wb mb oa,LI 98 9 wb mb ds s oa oc,w,f⟩) (λx=>[⟨b1,[.int .i64 op,.int .i64 ln,.int .i64 co,S tx,.int .i64 nm,.slice na k.len nc],74,true⟩]) (λx=>[⟨9,1,x.2.2.2.2.1,x.2.2.2.2.2,x.2.2.2.1.length,x.2.2.2.1.map S⟩]) (λx=>[]) (λx=>[λw f=>AD w f k na nc]) ?_ ?_;refine Aa 1 [] (λ_=>MD 9 1 ?_);refine EZ (α:=Nat×Nd×Nd×List lU×Option Addr×Nat) (λx=>x.2.2.1.len) (λx=>x.1+x.2.2.1.len=k.len∧C5 k=(x.2.2.2.1++(C5 x.2.2.1).1,x.2.1.app (C5 x.2.2.1).2.1,(C5 x.2.2.1).2.2)∧x.2.2.2.1.length=x.1∧x.2.1.len=x.1∧k=x.2.1.app x.2.2.1) (λx=>(E4 0 (.pointer (some ⟨wb,0,none⟩)) 3 (.pointer (some ⟨b1,0,none⟩)) 5 (.int .i64 (x.1:Int)) 6 (.slice x.2.2.2.2.1 x.2.2.2.1.length x.2.2.2.2.2))) (λx=>⟨Fm wb mb oa,Fm wb mb oa,LI 98 9 wb mb ds s oa oc,w,f⟩) (λx=>[⟨b1,[.int .i64 op,.int .i64 ln,.int .i64 co,S tx,.int .i64 nm,.slice na k.len nc],74,true⟩]) (λx=>[⟨9,1,x.2.2.2.2.1,x.2.2.2.2.2,x.2.2.2.1.length,x.2.2.2.1.map S⟩]) (λx=>[]) (λx=>[λw f=>AD w f k na nc,λw f=>AU w f na x.1 x.2.2.1]) (0,.nil,k,[],none,0) ⟨Nat.zero_add _,rfl,rfl,rfl,rfl⟩ lE (λw f hM=>hM.more (B':=[]) (F':=[λw f=>AD w f k na nc,λw f=>AU w f na 0 k]) nE (AE.mem ⟨hM.f0,AD.at hM.f0,tQ⟩) (Aw.mem ⟨AD.mono,AU.mono,tQ⟩) |>.less sR sR nE (mR [0,1])) ?_;rintro⟨i,u,r,vs,ra,rc⟩ ⟨hi,hhv,hvs,hul,hk⟩;dsimp only at hi hhv hvs hul hk ⊢;refine Aa 9 [0] (y<|λ_=>AJ 15 rfl rfl (λh1=>?_) (λh1=>?_));have hil:i<k.len:=by have:=of_decide_eq_true h1;omega
 obtain⟨op2,ln2,co2,tx2,nm2,k2,r,rfl⟩:=Nd.cases1 r oM;have hi2:i+(r.len+1)=k.len:=hi;refine HD 1 rfl ?_;rintro⟨eb,eo,ka,kc⟩ rfl;refine Aa 10 [0,100,0] (y<|And.intro oM<|y2<|λ_=>AJ 23 rfl rfl (λh2=>?_) (λh2=>?_));exact Aa 14 [0,100,3] (y<|And.intro oM<|y2<|λb2=>λ_=>CT 0 0 rfl rfl QS rfl rfl rfl rfl rfl rfl rfl rfl (λ_ _=>rfl) oM oM λra2 rc2=>Aa 9 [] (And.intro ⟨oM,oM⟩<|λ_=>CY ((i+1,u.app (Nd.cons op2 ln2 co2 tx2 nm2 k2 .nil),r,vs++[tx2],ra2,rc2)) (show r.len<(Nd.cons op2 ln2 co2 tx2 nm2 k2 r).len from Nat.lt_succ_self _) ⟨show i+1+r.len=_ by omega,hhv.trans (by rw[W5 h2];simp[Nd.app_assoc,Nd.app]),by show (vs++[tx2]).length=i+1;rw[List.length_append,hvs];rfl,by show (u.app (Nd.cons op2 ln2 co2 tx2 nm2 k2 .nil)).len=i+1;rw[Nd.app_len,hul];rfl,hk.trans (by rw[Nd.app_assoc];rfl)⟩ (uA rfl rfl rfl (Eq.trans (b:=some (Value.slice ra2 (vs.length+1) rc2)) rfl (by dsimp only;rw[List.length_append];rfl))) (λw f hM=>⟨_,by have hM9:=hM.less (H':=[⟨b1,[.int .i64 op,.int .i64 ln,.int .i64 co,S tx,.int .i64 nm,.slice (some ⟨eb,eo,none⟩) k.len nc],74,true⟩]) (B':=[]) (F':=[λw f=>AD w f k (some ⟨eb,eo,none⟩) nc,λw f=>AU w f (some ⟨eb,eo,none⟩) (i+1) r]) (.cons _ sR) sR nE (mR [2,1]);dsimp only;rw[show (vs++[tx2]).length=vs.length+1 by rw[List.length_append];rfl,List.map_append];exact hM9⟩)));exact Aa 3 [] (λ_=>EH<|Aa 1 [] (λ_=>HE (i,u,(.cons op2 ln2 co2 tx2 nm2 k2 r),vs,ra,rc) ⟨hi,hhv.trans (by rw[Wu h2];simp[Nd.app_nil]),hvs,hul,hk⟩ lE (λw f hM=>⟨f,hM.less sR sR nE (mR [2])⟩)));refine Aa 13 [] (λ_=>EH<|Aa 1 [] (λ_=>?_));obtain rfl:r=.nil:=Nd.len0 (by have:=of_decide_eq_false h1;omega);exact HE (i,u,.nil,vs,ra,rc) ⟨hi,hhv.trans (by simp[C5,Nd.app_nil]),hvs,hul,hk⟩ lE (λw f hM=>⟨f,hM.less sR sR nE (mR [0])⟩);rintro⟨i,u,r,vs,ra,rc⟩ ⟨hi,hhv,hvs,hul,hk⟩;dsimp only at hi hhv hvs hul hk ⊢;have hsz2:u.size+r.size=k.size:=by rw[hk,Kk]
 have hcp2:u.cap+r.cap=k.cap:=by rw[hk,Pj]
 obtain⟨hux,hrx⟩:=ZF u r (hk▸hkx);have hcp:=Nd.cap_le k hkx;have hrl:=Nd.len_le r;refine LF (λw f=>Ie w f vs ra rc) Ie.mono (λw f hM=>XF hM) ?_;obtain⟨fa,hfa⟩:∃fa,fa=tS na nc i:=⟨_,rfl⟩;refine CP (λw f=>AD w f r fa (nc-i)) (λw f hM=>hfa▸AD.drop (hk▸hM.f1) hul) AD.mono<|CP (λw f=>AD w f u na nc) (λw f hM=>aT (hk▸hM.f2)) AD.mono<|MD 9 1<|Aa 12 [0] (y<|λ_=>D6 rfl rfl (λw f hM=>bV (m:=r.len) hfa oM rfl rfl N3)<|Aa 5 [] (λ_=>?_));refine EZ (α:=Nat×Nd×List lU×H4×Option Addr×Nat×Option Addr×Nat) (λx=>x.2.1.len) (λx=>x.1+x.2.1.len=r.len∧FF (Bg ds) vs r s=(x.2.2.1++(FF (Bg ds) vs x.2.1 x.2.2.2.1).1,(FF (Bg ds) vs x.2.1 x.2.2.2.1).2)∧(Ga x.2.2.1).length+x.2.1.cap≤r.cap∧x.2.2.2.1.met.length+x.2.1.size≤s.met.length+r.size∧x.2.1.txb∧x.2.1.size≤r.size∧x.2.2.1.length=x.1) (λx=>(E8 0 (.pointer (some ⟨wb,0,none⟩)) 3 (.pointer (some ⟨b1,0,none⟩)) 5 (.int .i64 (i:Int)) 6 (.slice ra vs.length rc) 7 (.slice x.2.2.2.2.2.2.1 x.2.2.1.length x.2.2.2.2.2.2.2) 38 (.slice fa r.len (nc-i)) 39 (.int .i64 (r.len:Int)) 40 (.int .i64 (x.1:Int)))) (λx=>⟨Fm wb mb oa,Fm wb mb x.2.2.2.2.1,LI 98 9 wb mb ds x.2.2.2.1 x.2.2.2.2.1 x.2.2.2.2.2.1,w,f⟩) (λx=>[⟨b1,[.int .i64 op,.int .i64 ln,.int .i64 co,S tx,.int .i64 nm,.slice na k.len nc],74,true⟩]) (λx=>[⟨9,1,x.2.2.2.2.2.2.1,x.2.2.2.2.2.2.2,x.2.2.1.length,x.2.2.1.map S⟩]) (λx=>[]) (λx=>[λw f=>AD w f u na nc,λw f=>AU w f fa x.1 x.2.1,λw f=>Ie w f vs ra rc]) (0,r,[],s,oa,oc,none,0) ⟨Nat.zero_add _,rfl,by show 0+r.cap≤_;omega,Nat.le_refl _,hrx,Nat.le_refl _,rfl⟩ lE (λw f hM=>hM.more (B':=[]) (F':=[λw f=>AD w f u na nc,λw f=>AU w f fa 0 r,λw f=>Ie w f vs ra rc]) nE (AE.mem ⟨hM.f0,AD.at hM.f1,hM.f2,tQ⟩) (Aw.mem ⟨AD.mono,AU.mono,Ie.mono,tQ⟩) |>.less sR sR nE (mR [0,1,2])) ?_;rintro⟨j,q,cs,s2,oa2,oc2,ca,cc⟩ ⟨hj,hcs,hqc,hqm,hqx,hqs,hcl⟩;dsimp only at hj hcs hqc hqm hqx hqs hcl ⊢;refine Aa 6 [] (λ_=>AJ 41 rfl rfl (λh3=>?_) (λh3=>?_));refine Aa 6 [] (λ_=>?_);have hjl:j<r.len:=by have:=of_decide_eq_true h3;omega
 obtain⟨op2,ln2,co2,tx2,nm2,k2,q,rfl⟩:=Nd.cases1 q oM;have hj2:j+(q.len+1)=r.len:=hj;have hqs2:k2.size+q.size+1≤r.size:=hqs;have hqm2:s2.met.length+(k2.size+q.size+1)≤s.met.length+r.size:=hqm;have hqc2:(Ga cs).length+(tx2.length+8+k2.cap+q.cap)≤r.cap:=hqc;have hal:=DZ (Bg ds) vs k2 s2;have hjs:=Su cs (tx2++(allS (Bg ds) vs k2 s2).1);rw[List.length_append] at hjs;have hql:=hqx.1;refine HD 1 rfl ?_;rintro⟨eb,eo,ka,kc⟩ rfl;refine Aa 7 [100,0,0] (And.intro oM<|y2<|λb3=>y<|λ_=>Cv [0,1] Ak (rd [0,1,2,3,4,5,6] (.br 7 (.rd 8 (.br 9 (.br 10 (.rd 11 .fin) .fin) .fin)) .fin)) rfl kR<|A1 7 [0,0] (y<|y<|λ_=>Af rfl ?_ Aj));refine S5 (XX:=λ_ _=>False) rfl rfl (eC TY rfl rfl) (λw f hM=>((Ns k2.size).2 w f hM.vl wb mb ds s2 oa2 oc2 hM.res hM.mz k2 ka kc vs ra rc (Nat.le_refl _) oM hqx.2.1 oM oM hM.f0 hM.f4).retP) (λ_=>Gt.stab) (λ_=>trivial) (λ_ _ _ _ _ h=>h.elim) ?_;rintro⟨oa3,oc3⟩ -;dsimp only;refine Aa 1 [] (λ_=>Au [0,1] rfl<|A1 1 [] (And.intro (by first|omega|(simp only[List.length_cons,List.length_append,List.length_nil];omega))<|λ_=>Af rfl ?_ Aj));refine Aa 2 [] (λb4=>λ_=>Au [1,2] rfl<|Af rfl ?_ Aj);exact CT 0 0 rfl rfl QS rfl rfl rfl rfl rfl rfl rfl rfl (λ_ _=>rfl) oM oM λca2 cc2=>Aa 1 [] (λ_=>Au [1,2] rfl<|A1 1 [] (λ_=>Bf<|Aa 6 [] (And.intro ⟨oM,oM⟩<|λ_=>CY ((j+1,q,cs++[(tx2++(allS (Bg ds) vs k2 s2).1)],(allS (Bg ds) vs k2 s2).2,oa3,oc3,ca2,cc2)) (show q.len<(Nd.cons op2 ln2 co2 tx2 nm2 k2 q).len from Nat.lt_succ_self _) ⟨show j+1+q.len=_ by omega,hcs.trans (by rw[Mw];simp),show (Ga (cs++[(tx2++(allS (Bg ds) vs k2 s2).1)])).length+q.cap≤_ by omega,show (allS (Bg ds) vs k2 s2).2.met.length+q.size≤_ by omega,hqx.2.2,show q.size≤_ by omega,by show (cs++[(tx2++(allS (Bg ds) vs k2 s2).1)]).length=j+1;rw[List.length_append,hcl];rfl⟩ (oR rfl rfl rfl rfl (Eq.trans (b:=some (Value.slice ca2 (cs.length+1) cc2)) rfl (by dsimp only;rw[List.length_append];rfl)) rfl rfl rfl) (λw f hM=>⟨_,by have hM9:=hM.less (H':=[⟨b1,[.int .i64 op,.int .i64 ln,.int .i64 co,S tx,.int .i64 nm,.slice na k.len nc],74,true⟩]) (B':=[]) (F':=[λw f=>AD w f u na nc,λw f=>AU w f (some ⟨eb,eo,none⟩) (j+1) q,λw f=>Ie w f vs ra rc]) (.cons _ (.cons _ sR)) sR nE (mR [2,1,4]);dsimp only;rw[show (cs++[(tx2++(allS (Bg ds) vs k2 s2).1)]).length=cs.length+1 by rw[List.length_append];rfl,List.map_append];exact hM9⟩))));refine Aa 3 [] (λ_=>EH<|Aa 3 [] (λ_=>?_));obtain rfl:q=.nil:=Nd.len0 (by have:=of_decide_eq_false h3;omega);have hcs2:FF (Bg ds) vs r s=(cs,s2):=by rw[hcs];simp[FF]
 have hds:=WY (tx:=tx) hhv hcs2;have hjc:=K5 cs;have hal:=DZ (Bg ds) vs u s2;have huc:=Nd.cap_le u hux;refine LF (λw f=>Ie w f cs ca cc) Ie.mono (λw f hM=>XF hM)<|Cv [0] Ak (rd [0,1,2,3,4,5,6,7,8,12] (.br 9 (.rd 10 (.rd 11 (.br 13 (.rd 14 (.rd 15 .fin)) .fin))) .fin)) rfl kR<|A1 7 [0,0] (y<|And.intro (by first|omega|(simp only[List.length_cons,List.length_append,List.length_nil];omega))<|y<|λ_=>F6 rfl rfl rfl (λw hK=>I9 (i:=u.len) (by rw[hul]) rfl rfl N3 (by have:=hNc;omega))<|A1 2 [] (λ_=>Af rfl ?_ Aj));refine S5 (XX:=λ_ _=>False) rfl rfl (eC TY rfl rfl) (λw f hM=>((Ns u.size).2 w f hM.vl wb mb ds s2 oa2 oc2 hM.res hM.mz u na nc vs ra rc (Nat.le_refl _) oM hux oM oM hM.f1 hM.f3).retP) (λ_=>Gt.stab) (λ_=>trivial) (λ_ _ _ _ _ h=>h.elim) ?_;rintro⟨oa4,oc4⟩ -;dsimp only;refine Aa 1 [] (λ_=>Au [0] rfl<|A1 2 [] (And.intro (by first|omega|(simp only[List.length_cons,List.length_append,List.length_nil];omega))<|And.intro (by first|omega|(simp only[List.length_cons,List.length_append,List.length_nil];omega))<|λ_=>Af rfl ?_ Aj));refine Br (α:=Unit) (val:=λ_=>S (Ga cs)) (q:=λ_=>True) (F':=λ_=>[]) rfl rfl (eC XJ rfl rfl) (λw f hM=>(by have h9:=SN w f hM.vl ca cc cs [44] hM.f0 oM (by rw[← hjc];omega);rw[← hjc] at h9;exact h9)) (λx=>trivial) ?_;rintro⟨⟩ -;exact Aa 1 [] (λ_=>Au [0] rfl<|A1 2 [] (And.intro (by first|omega|(simp only[List.length_cons,List.length_append,List.length_nil];omega))<|λ_=>Bf<|Aa 2 [] (λ_=>AL (C3 rfl rfl) (λw f hM=>⟨(oa4,oc4),f,(by rw[hds]),tQ,hM.exm,(λb hb=>let ⟨h1,h2,h3⟩:=hM.mi b hb;h3.elim (λh=>.inr ⟨h,h1,h2⟩) .inl),(by rw[hds];exact hM.res),tQ⟩))))
set_option maxHeartbeats 2000000 in
theorem RJ(w:World)(f:Fq)(hv:Vl w f)(nds:Nd)(na:Option Addr)(nc:Nat)(hsz:nds.size≤200000)(htx:nds.txb)(hnd:((Cw nds).map (·.1)).Nodup)(hro:Qq nds)(hN:AD w f nds na nc) :
   Bo prog 13 #[.slice na nds.len nc] w (Bx (α:=Option Addr×Nat) (λx=>wF (aR nds) x) (λ_=>True) (λx=>[λw f=>DI w f (oW (aR nds)) x.1 x.2]) w f):=by
 have hkl:=Nd.len_le nds;refine Cg (X:=X0 w f) (H:=[]) (R:=[]) (B:=[]) (Fs:=[λw f=>AD w f nds na nc]) (f:=f) func13 rfl rfl rfl (BS hv ⟨hN,tQ⟩ ⟨AD.mono,tQ⟩)<|Aa 9 [] (λb1=>λ_=>tG (K:=BN) rfl rfl λmb=>tX (λb=>b=mb) (aD mb []) (λb h=>.inr h) (λw f h=>⟨[],h.2,rfl,tQ⟩) (aD.stab rfl)<|Aa 12 [] (λ_=>?_));refine EZ (α:=Nat×Nd×DS) (λx=>x.2.1.len) (λx=>x.1+x.2.1.len=nds.len∧Cw nds=Cw x.2.1++x.2.2) (λx=>(E6 0 (.slice na nds.len nc) 3 (.pointer (some ⟨b1,0,none⟩)) 5 (.map (some mb)) 16 (.slice na nds.len nc) 17 (.int .i64 (nds.len:Int)) 18 (.int .i64 (x.1:Int)))) (λx=>⟨λ_=>False,λb=>b=mb,aD mb x.2.2,w,f⟩) (λx=>[⟨b1,[.int .i64 0,.int .i64 0],27,true⟩]) (λx=>[]) (λx=>[]) (λx=>[λw f=>AD w f nds na nc,λw f=>AU w f na x.1 x.2.1]) (0,nds,[]) ⟨Nat.zero_add _,by simp⟩ lE (λw f hM=>hM.more (B':=[]) (F':=[λw f=>AD w f nds na nc,λw f=>AU w f na 0 nds]) nE (AE.mem ⟨hM.f0,AD.at hM.f0,tQ⟩) (Aw.mem ⟨AD.mono,AU.mono,tQ⟩) |>.less sR sR nE (mR [0,1])) ?_;rintro⟨i,r,dl⟩ ⟨hi,hdl⟩;dsimp only at hi hdl ⊢;refine Aa 6 [] (λ_=>AJ 19 rfl rfl (λh1=>?_) (λh1=>?_));refine Aa 6 [] (λ_=>?_);have hil:i<nds.len:=by have:=of_decide_eq_true h1;omega
 obtain⟨op2,ln2,co2,tx2,nm2,k2,r,rfl⟩:=Nd.cases1 r oM;have hi2:i+(r.len+1)=nds.len:=hi;refine HD 1 rfl ?_;rintro⟨eb,eo,ka,kc⟩ rfl;refine Aa 14 [100,0,0,0] (And.intro oM<|y2<|λb2=>y<|y<|λ_=>AJ 24 rfl rfl (λh2=>?_) (λh2=>?_));refine Aa 6 [0,0] (y<|y<|λ_=>?_);have hdl2:Cw nds=Cw r++(tx2,k2)::dl:=by rw[hdl,Cw,if_pos h2];simp
 have hnl:AS dl tx2=none:=TH (hdl2▸hnd);exact fY (λes w f=>BF BN w mb es∧FJ w f dl es∧Ir es) (λw f h=>h) (λes _ _ _ _ h hF hb=>⟨h.1.heap (hb _ rfl),FJ.mono hF _ _ h.2.1,h.2.2⟩) λes=>Ig (p:=Ir es∧Em es tx2=none) (λw f hM=>⟨hM.res.2.2,(FJ.look hM.res.2.1).1 hnl⟩) λhes=>Zd (K:=BN) (a:=tx2) (l:=es) (I':=aD mb ((tx2,k2)::dl)) rfl rfl rfl rfl UC FH rfl hes.1 hes.2 (λw f h=>h.1) (λw f w2 h hM hC hm=>⟨_,hm,⟨op2,ln2,co2,nm2,ka,kc,es,rfl,AD.mono _ _ _ _ hM.f0 (hC.fle (hM.mi _ rfl).2.1),FJ.mono (hC.fle (hM.mi _ rfl).2.1) _ _ h.2.1⟩,hes.2,hes.1⟩) (aD.stab rfl)<|Aa 7 [] (And.intro ⟨oM,oM⟩<|λ_=>CY ((i+1,r,(tx2,k2)::dl)) (show r.len<(Nd.cons op2 ln2 co2 tx2 nm2 k2 r).len from Nat.lt_succ_self _) ⟨show i+1+r.len=_ by omega,hdl2⟩ lE (λw f hM=>⟨_,hM.less (sD (sK sZ)) sR (F':=[λw f=>AD w f nds (some ⟨eb,eo,none⟩) nc,λw f=>AU w f (some ⟨eb,eo,none⟩) (i+1) r]) nE (mR [2,1])⟩));exact Aa 8 [] (And.intro ⟨oM,oM⟩<|λ_=>CY ((i+1,r,dl)) (show r.len<(Nd.cons op2 ln2 co2 tx2 nm2 k2 r).len from Nat.lt_succ_self _) ⟨show i+1+r.len=_ by omega,hdl.trans (by rw[Cw,if_neg (by rw[h2];decide)])⟩ lE (λw f hM=>⟨_,hM.less (sD (sK sZ)) sR (F':=[λw f=>AD w f nds (some ⟨eb,eo,none⟩) nc,λw f=>AU w f (some ⟨eb,eo,none⟩) (i+1) r]) nE (mR [2,1])⟩));refine Aa 3 [] (λ_=>EH<|Aa 3 [] (λ_=>?_));obtain rfl:r=.nil:=Nd.len0 (by have:=of_decide_eq_false h1;omega);have hdd:dl=Cw nds:=hdl.symm;have hdm:∀d dx,AS dl d=some dx→dx.size+1≤nds.size∧d.length≤100000∧dx.txb:=λd dx h=>Nl (p:=(d,dx)) (hdd▸KX h) htx;have hdn:(dl.map λp=>aF p.1 p.2).sum≤nds.cap∧dl.length≤nds.len:=by rw[hdd];exact Ml nds
 have hcap:=Nd.cap_le nds htx;refine Aa 13 [] (λ_=>MD 34 2 ?_);refine EZ (α:=Nat×Nd×List (lU×lU)×Option Addr×Nat) (λx=>x.2.1.len) (λx=>x.1+x.2.1.len=nds.len∧aR nds=Qw dl x.2.1 x.2.2.1∧x.2.1.txb∧x.2.1.size≤nds.size∧Qq x.2.1∧x.2.2.1.length≤x.1) (λx=>(E6 3 (.pointer (some ⟨b1,0,none⟩)) 5 (.map (some mb)) 8 (.slice x.2.2.2.1 x.2.2.1.length x.2.2.2.2) 30 (.slice na nds.len nc) 31 (.int .i64 (nds.len:Int)) 32 (.int .i64 (x.1:Int)))) (λx=>⟨λ_=>False,λb=>b=mb,aD mb dl,w,f⟩) (λx=>[⟨b1,[.int .i64 0,.int .i64 0],27,true⟩]) (λx=>[⟨34,2,x.2.2.2.1,x.2.2.2.2,x.2.2.1.length,bC x.2.2.1⟩]) (λx=>[]) (λx=>[λw f=>AU w f na x.1 x.2.1]) (0,nds,[],none,0) ⟨Nat.zero_add _,by show Qw (Cw nds) nds []=_;rw[← hdd],htx,Nat.le_refl _,hro,Nat.le_refl _⟩ lE (λw f hM=>hM.more (B':=[]) (F':=[λw f=>AU w f na 0 nds]) nE (AE.mem ⟨AD.at hM.f0,tQ⟩) (Aw.mem ⟨AU.mono,tQ⟩) |>.less (sK sZ) sR nE (mR [0])) ?_;rintro⟨i,r,out,ra,rc⟩ ⟨hi,hof,hrx,hrs,hro2,hol⟩;dsimp only at hi hof hrx hrs hro2 hol ⊢;refine Aa 6 [] (λ_=>AJ 33 rfl rfl (λh3=>?_) (λh3=>?_));refine Aa 6 [] (λ_=>?_);have hil:i<nds.len:=by have:=of_decide_eq_true h3;omega
 obtain⟨op2,ln2,co2,tx2,nm2,k2,r,rfl⟩:=Nd.cases1 r oM;have hi2:i+(r.len+1)=nds.len:=hi;have hrs2:k2.size+r.size+1≤nds.size:=hrs;refine HD 0 rfl ?_;rintro⟨eb,eo,ka,kc⟩ rfl;refine Aa 15 [100,0,0,0] (And.intro oM<|y2<|λb3=>y<|y<|λ_=>AJ 38 rfl rfl (λh4=>?_) (λh4=>?_));exact Aa 9 [] (And.intro ⟨oM,oM⟩<|λ_=>CY ((i+1,r,out,ra,rc)) (show r.len<(Nd.cons op2 ln2 co2 tx2 nm2 k2 r).len from Nat.lt_succ_self _) ⟨show i+1+r.len=_ by omega,hof.trans (WZ (by simpa using h4)),hrx.2.2,show r.size≤_ by omega,hro2.2,show out.length≤i+1 by omega⟩ lE (λw f hM=>⟨_,hM.less (sD (sK sZ)) sR nE (mR [1])⟩));refine Aa 11 [] (λ_=>AJ 41 rfl rfl (λh5=>?_) (λh5=>?_));refine Aa 2 [] (λ_=>Cv [0] Ak (rd [0,1,2] (.br 3 (.rd 4 .fin) .fin)) rfl kR<|A1 3 [0] (y<|λ_=>Af rfl ?_ Aj));refine Aa 2 [1] (y<|λ_=>Au [0] rfl<|A1 1 [] (λ_=>Bf<|Aa 5 [] (λ_=>U3<|Aa 2 [] (λ_=>?_))));have hof2:aR nds=.error (ln2,co2,4):=hof.trans (Yl (by simpa using h4) h5);exact AL (λw f hM=>D3 rfl (Ah rfl) (Ac rfl Ex hM.k1 rfl) (Ah rfl)) (λw f hM=>⟨(none,0),f,(by rw[hof2];rfl),tQ,hM.exm,⟨by rw[hof2];exact⟨Nat.le_refl _,.inl rfl⟩,tQ⟩⟩);refine Aa 4 [] (λ_=>?_);have hop:(op2==43)=true:=by simpa using h4
 obtain⟨op3,ln3,co3,tx3,nm3,k3,q3,rfl⟩:=bM (hro2.1 (eq_of_beq hop));have hks3:(Nd.cons op3 ln3 co3 tx3 nm3 k3 q3).size=k3.size+q3.size+1:=rfl;have hkl3:(Nd.cons op3 ln3 co3 tx3 nm3 k3 q3).len=q3.len+1:=rfl;have hx3:tx3.length≤100000∧k3.txb∧q3.txb:=hrx.2.1;refine uY 0 rfl<|HD 0 rfl ?_;rintro⟨eb3,eo3,ka3,kc3⟩ rfl;refine Aa 21 [1,100,0,0,0] (λb4=>y<|And.intro oM<|y2<|λb5=>y<|y<|λ_=>Ig (p:=b4≠mb) (λw f hM=>(hM.own b4 (List.mem_append.2 (.inl (List.mem_map.2 ⟨_,BH (i:=1) rfl,rfl⟩)))).2.2) λhwm=>oQ 1 rfl rfl<|tX (Fm b4 mb none) (LI 98 9 b4 mb dl ⟨[],true⟩ none 0) (λb h=>h.elim .inr λh=>h.elim .inl λh=>by cases h) (λw f h=>⟨h.2,h.1,F5 _ _ _,hwm,(λh=>by cases h),(λh=>by cases h)⟩) Gt.stab<|S5 (XX:=λ_ _=>False) rfl rfl (eC Zh rfl rfl) (λw f hM=>((Ns (k3.size+1)).1 w f hM.vl b4 mb dl ⟨[],true⟩ none 0 hM.res hM.mz op3 ln3 co3 nm3 tx3 k3 ka3 kc3 [] none 0 (Nat.lt_succ_self _) oM hx3.1 hx3.2.1 (by show 0+k3.size+1≤_;omega) (Nat.zero_le _) hM.f0 ⟨Nat.le_refl _,.inl rfl⟩).retP) (λ_=>Gt.stab) (λ_=>trivial) (λ_ _ _ _ _ h=>h.elim) ?_);rintro⟨oa,oc⟩ -;dsimp only;have htl:=(O0 (Bg dl) [] op3 tx3 k3 ⟨[],true⟩).1;have hc3:=Nd.cap_le k3 hx3.2.1;have hgd:Gd dl (Da (Bg dl) [] op3 tx3 k3 ⟨[],true⟩).2:=Rl.text.gd Gd.nil;generalize hts:Da (Bg dl) [] op3 tx3 k3 ⟨[],true⟩=ts at htl hgd ⊢;obtain⟨t0,s0⟩:=ts;dsimp only at htl hgd ⊢;refine Aa 10 [] (λ_=>?_);refine EZ (α:=Nat×lU×H4×Option Addr×Nat) (λx=>dl.length-x.1) (λx=>KC dl (dl.length+1) 0 t0 s0=KC dl (dl.length+1-x.1) x.1 x.2.1 x.2.2.1∧x.1≤x.2.2.1.met.length∧Gd dl x.2.2.1∧x.2.1.length≤t0.length+((x.2.2.1.met.take x.1).map (wD aF dl)).sum) (λx=>(oS 3 (.pointer (some ⟨b1,0,none⟩)) 5 (.map (some mb)) 8 (.slice ra out.length rc) 10 (.pointer (some ⟨b3,0,none⟩)) 11 (.pointer (some ⟨b4,0,none⟩)) 12 (.pointer (some ⟨b5,0,none⟩)) 13 (S x.2.1) 14 (.int .i64 (x.1:Int)) 30 (.slice (some ⟨eb,eo,none⟩) nds.len nc) 31 (.int .i64 (nds.len:Int)) 32 (.int .i64 (i:Int)))) (λx=>⟨λ_=>False,Fm b4 mb x.2.2.2.1,LI 98 9 b4 mb dl x.2.2.1 x.2.2.2.1 x.2.2.2.2,w,f⟩) (λx=>[⟨b5,[.int .i64 op3,.int .i64 ln3,.int .i64 co3,S tx3,.int .i64 nm3,.slice ka3 k3.len kc3],74,true⟩,⟨b3,[.int .i64 op2,.int .i64 ln2,.int .i64 co2,S tx2,.int .i64 nm2,.slice (some ⟨eb3,eo3,none⟩) (Nd.cons op3 ln3 co3 tx3 nm3 k3 q3).len kc],74,true⟩,⟨b1,[.int .i64 0,.int .i64 0],27,true⟩]) (λx=>[⟨34,2,ra,rc,out.length,bC out⟩]) (λx=>[]) (λx=>[λw f=>AU w f (some ⟨eb,eo,none⟩) (i+1) r]) (0,t0,s0,oa,oc) ⟨rfl,Nat.zero_le _,hgd,by simp⟩ lE (λw f hM=>hM.less sR sR nE (mR [4])) ?_;rintro⟨j,t,s,oa,oc⟩ ⟨hme,hjm,hg,htl3⟩;dsimp only at hme hjm hg htl3 ⊢;refine Aa 7 [] (λ_=>D6 rfl rfl (λw f hM=>Ai rfl L7 hM.res.blk rfl)<|Aa 4 [] (λ_=>AJ 60 rfl rfl (λh6=>?_) (λh6=>?_)));refine Aa 5 [] (λ_=>?_);have hjl:j<s.met.length:=by have:=of_decide_eq_true h6;omega
 obtain⟨d,hx⟩:∃d,s.met[j]?=some d:=⟨_,List.getElem?_eq_getElem hjl⟩;have hml:=Vi hg;obtain⟨dx,hdx⟩:∃dx,AS dl d=some dx:=Option.isSome_iff_exists.1 (hg.2 d (List.mem_of_getElem? hx));obtain⟨hds1,hds2,hds3⟩:=hdm d dx hdx;have hsl0:=YO hx hdx htl3;have hsl:=hsl0;rw[List.length_append] at hsl;have hst:=Zm (Rl.data (tx:=d) (k:=dx) |>.gd hg) (j+1);refine Ig (p:=∃ob,oa=some ⟨ob,0,none⟩) (λw f hM=>let ⟨b,_,h,_⟩:=Zs hM.res.row hx;⟨b,h⟩) λhob=>?_;obtain⟨ob,rfl⟩:=hob;refine fY (λes w f=>LI 98 9 b4 mb dl s (some ⟨ob,0,none⟩) oc w f∧BF BN w mb es∧FJ w f dl es∧Ir es) (λw f h=>let ⟨es,h1,h2,h3⟩:=h.map;⟨es,h,h1,h2,h3⟩) (λes w f w' f' h hF hb=>⟨Gt.stab w f w' f' h.1 hF hb,h.2.1.heap (hb _ (.inr (.inl rfl))),FJ.mono hF _ _ h.2.2.1,h.2.2.2⟩) λes=>Ig (λw f hM=>hM.res.2.2.2) λhdis=>Kb (α:=Int×Int×Int×Int×Option Addr×Nat) (λx=>Em es d=some (.agg (Kd x.1 x.2.1 x.2.2.1 d x.2.2.2.1 x.2.2.2.2.1 dx.len x.2.2.2.2.2).toArray)) (λx=>[]) (λx=>[λw f=>AD w f dx x.2.2.2.2.1 x.2.2.2.2.2]) (λw f hM=>let ⟨a1,a2,a3,a4,a5,a6,h1,h2⟩:=(FJ.look hM.res.2.2.1).2 dx hdx;⟨(a1,a2,a3,a4,a5,a6),h1,nE,AE.mem ⟨h2,tQ⟩⟩) (λx=>Aw.mem ⟨AD.mono,tQ⟩) ?_;rintro⟨dop,dln,dco,dnm,da,dc⟩ hlk;dsimp only at hlk ⊢;refine Aa 7 [] (λ_=>D6 rfl rfl (λw f hM=>Ai rfl L7 hM.res.1.blk rfl)<|Aa 2 [] (And.intro oM<|λ_=>D6 rfl rfl (λw f hM=>YY (i:=j) rfl Zw hM.res.1.row hx)<|D6 rfl rfl (λw f hM=>Lt (K:=BN) (a:=d) (v:=.agg (Kd dop dln dco d dnm da dx.len dc).toArray) rfl rfl UC FH Xa hM.res.2.1 hdis (by rw[hlk];rfl))<|S5 (XX:=λ_ _=>False) rfl rfl (eC oC rfl rfl) (λw f hM=>(TQ w f hM.vl b4 mb dl s (some ⟨ob,0,none⟩) oc hM.res.1 hM.mz dop dln dco dnm d dx da dc oM hds2 hds3 oM hM.f0).retP) (λ_=>Gt.stab) (λ_=>trivial) (λ_ _ _ _ _ h=>h.elim) ?_));rintro⟨oa5,oc5⟩ -;dsimp only;exact Aa 10 [] (And.intro (by first|omega|(simp only[List.length_cons,List.length_append,List.length_nil];omega))<|And.intro ⟨oM,oM⟩<|λ_=>CY ((j+1,t++(Gb (Bg dl) d dx s).1,(Gb (Bg dl) d dx s).2,oa5,oc5)) (show dl.length-(j+1)<dl.length-j by omega) ⟨hme.trans (VQ hx hdx oM),by have:=(Rl.data (ds:=dl) (s:=s) (tx:=d) (k:=dx)).pre.length_le;show j+1≤(Gb (Bg dl) d dx s).2.met.length;omega,Rl.gd (Rl.data (tx:=d) (k:=dx)) hg,hsl0⟩ lE (λw f hM=>⟨_,hM.less (sK (sK (sK sZ))) sR nE (mR [1])⟩));refine Aa 3 [] (λ_=>EH<|Aa 5 [] (λ_=>?_));have hml:=Vi hg;have hjl:s.met.length≤j:=by have:=of_decide_eq_false h6;omega
 have hrt:M8 dl op3 tx3 k3=(t,s):=by unfold M8;rw[hts];exact hme.trans (YF hjl oM)
 refine Aa 4 [] (λ_=>D6 rfl rfl (λw f hM=>Ai rfl VK hM.res.blk rfl)<|Aa 4 [] (λ_=>AJ 76 rfl rfl (λh7=>?_) (λh7=>?_)));replace h7:=EV h7;refine Aa 2 [] (λ_=>Cv [0,1] Ak (rd [0,1,2] (.br 3 (.rd 4 .fin) .fin)) rfl kR<|A1 3 [0] (y<|λ_=>Af rfl ?_ Aj));refine Aa 2 [2] (y<|λ_=>Au [0,1] rfl<|A1 1 [] (λ_=>Bf<|Aa 6 [] (λ_=>U3<|Aa 2 [] (λ_=>?_))));have hof2:aR nds=.error (ln3,co3,17):=hof.trans (ZK hop h5 hrt (by show (!s.keeps)=true;rw[h7];rfl));exact AL (λw f hM=>D3 rfl (Ah rfl) (Ac rfl Ex hM.k2 rfl) (Ah rfl)) (λw f hM=>⟨(none,0),f,(by rw[hof2];rfl),tQ,hM.exm,⟨by rw[hof2];exact⟨Nat.le_refl _,.inl rfl⟩,tQ⟩⟩);replace h7:=Fl h7;refine Aa 9 [] (λ_=>AJ 84 rfl rfl (λh8=>?_) (λh8=>?_));refine Aa 2 [] (λ_=>Cv [0,1] Ak (rd [0,1,2] (.br 3 (.rd 4 .fin) .fin)) rfl kR<|A1 3 [0] (y<|λ_=>Af rfl ?_ Aj));refine Aa 2 [2] (y<|λ_=>Au [0,1] rfl<|A1 1 [] (λ_=>Bf<|Aa 6 [] (λ_=>U3<|Aa 2 [] (λ_=>?_))));have hof2:aR nds=.error (ln3,co3,4):=hof.trans (cP hop h5 hrt (by show (!s.keeps)=false;rw[h7];rfl) (by have:=of_decide_eq_true h8;show 1000<t.length;omega));exact AL (λw f hM=>D3 rfl (Ah rfl) (Ac rfl Ex hM.k2 rfl) (Ah rfl)) (λw f hM=>⟨(none,0),f,(by rw[hof2];rfl),tQ,hM.exm,⟨by rw[hof2];exact⟨Nat.le_refl _,.inl rfl⟩,tQ⟩⟩);exact Aa 4 [] (λ_=>tX (λb=>b=mb) (aD mb dl) (λb h=>.inr (.inl h)) (λw f h=>h.map) (aD.stab rfl)<|Aa 7 [1] (y<|λb6=>λ_=>CT 0 0 rfl rfl XD rfl rfl rfl rfl rfl rfl rfl rfl (λ_ _=>rfl) oM oM λra2 rc2=>Aa 8 [] (And.intro ⟨oM,oM⟩<|λ_=>CY ((i+1,r,(out++[(tx2,t)]),ra2,rc2)) (show r.len<(Nd.cons op2 ln2 co2 tx2 nm2 (.cons op3 ln3 co3 tx3 nm3 k3 q3) r).len from Nat.lt_succ_self _) ⟨show i+1+r.len=_ by omega,hof.trans (iE hop h5 hrt (by show (!s.keeps)=false;rw[h7];rfl) (by have:=of_decide_eq_false h8;show t.length≤1000;omega)),hrx.2.2,show r.size≤_ by omega,hro2.2,by show (out++[(tx2,t)]).length≤i+1;rw[List.length_append];simp;omega⟩ (xB rfl rfl (Eq.trans (b:=some (Value.slice ra2 (out.length+1) rc2)) rfl (by dsimp only;rw[List.length_append];rfl)) rfl rfl rfl) (λw f hM=>⟨_,by have hM9:=hM.less (sD (sD (sD (sK sZ)))) sR (B':=[]) (F':=[λw f=>AU w f (some ⟨eb,eo,none⟩) (i+1) r]) nE (mR [0]);dsimp only;rw[show (out++[(tx2,t)]).length=out.length+1 by rw[List.length_append];rfl,show bC (out++[(tx2,t)])=bC out++[S tx2,S t] by rw[SP.bC_app];rfl];exact hM9⟩))));refine Aa 3 [] (λ_=>EH<|Aa 3 [] (λ_=>?_));obtain rfl:r=.nil:=Nd.len0 (by have:=of_decide_eq_false h3;omega);have hof2:aR nds=.ok out:=hof;exact LF (λw f=>DI w f out ra rc) DI.mono (λw f hM=>Pe hM)<|Aa 9 [0] (y<|λ_=>AL (λw f hM=>D3 rfl (Ah rfl) (Ac rfl Ex hM.k0 rfl) (Ah rfl)) (λw f hM=>⟨(ra,rc),f,(by rw[hof2];rfl),tQ,hM.exm,⟨by rw[hof2];exact hM.f0,tQ⟩⟩))
end Go.Proofs.YtelmolopaolbcaaGreatDoor
namespace Go.SW
variable {σ:Ba}{P:Program}{r1 r2 r3 r4:ResultVar}{v1 v2 v3 v4:Value}{w:World}
theorem Yj{fn:Func}(h:fn.results=#[r1,r2,r3,r4])(h1:Rv P σ w r1 v1)(h2:Rv P σ w r2 v2)(h3:Rv P σ w r3 v3)(h4:Rv P σ w r4 v4):TK P fn σ w (.tuple #[v1,v2,v3,v4]):=λtmps ht=>by
 have g1:=h1 tmps ht;have g2:=h2 tmps ht;have g3:=h3 tmps ht;have g4:=h4 tmps ht;rw[GG,h,List.mapM_toArray];simp[g1,g2,g3,g4]
end Go.SW
namespace Go.Proofs.YtelmolopaolbcaaGreatDoor
open Go.SW Go.SP Go.RowKit
section
variable{src:lU}
theorem W8(h:((Db src).2.2.2 != 0)=true):HL src=none:=by
 unfold HL;rw[XM (by simpa using h)]
theorem VP(h:((Db src).2.2.2 != 0)=false)(h2:((cK (CA (Db src).1)).2.2 != 0)=true):HL src=none:=by
 unfold HL;rw[RP (by simpa using h)]
 cases hi:CA (Db src).1 with
 |error e=>rfl
 |ok l=>rw[hi] at h2;cases h2
theorem WK(h:((Db src).2.2.2 != 0)=false)(h2:((cK (CA (Db src).1)).2.2 != 0)=false):(∃bs,CA (Db src).1=.ok bs)∧HL src=some (aR (Db src).1):=by
 unfold HL;rw[RP (by simpa using h)]
 cases hi:CA (Db src).1 with
 |error e =>
   rw[hi] at h2;exact absurd (show e.2.2=0 by simpa[cK] using h2) (ZE hi)
 |ok l=>exact⟨⟨_,rfl⟩,rfl⟩
end
end Go.Proofs.YtelmolopaolbcaaGreatDoor
namespace Go.Proofs.YtelmolopaolbcaaGreatDoor
open Go.SW Go.SP Go.RowKit Go.Proofs.Tryz
theorem MF(w:World)(f:Fq)(hv:Vl w f)(hJ:CX w f)(hG:EE w f)(src:lU) :
   Bo prog 6 #[S src] w (xC (HL src) w f):=by
 refine Cg (X:=X0 w f) (H:=[]) (R:=[]) (B:=[]) (Fs:=[λw f=>CX w f,λw f=>EE w f]) (f:=f) func6 rfl rfl rfl (BS hv ⟨hJ,hG,tQ⟩ ⟨CX.mono,EE.mono,tQ⟩)<|Aa 11 [] (λb1=>λ_=>Br rfl rfl (eC nR rfl rfl) (λw f hM=>Yc w f hM.vl hM.f0 src) (λ_=>⟨AD.mono,tQ⟩) ?_);rintro⟨na,nc⟩ -;dsimp only;refine Aa 17 [0] (λb2=>y<|λ_=>AJ 21 rfl rfl (λh1=>?_) (λh1=>?_));exact Aa 12 [1] (y<|λ_=>AL (λw f hM=>Yj rfl (Ah rfl) (Ac rfl Ex hM.k1 rfl) (Ah rfl) (Ah rfl)) (λw f hM=>(by rw[W8 h1];exact⟨(none,0),f,rfl,tQ,hM.exm,⟨Nat.zero_le _,.inl rfl⟩,tQ⟩)));refine Aa 7 [] (λ_=>Br rfl rfl (eC nJ rfl rfl) (λw f hM=>Z0 w f hM.vl hM.f2 _ na nc (Ho src).wft (Ho src).size (Ho src).txb hM.f0) (λ_=>⟨DI.mono,tQ⟩) ?_);rintro⟨a,c⟩ -;refine Aa 16 [0] (λb3=>y<|λ_=>AJ 30 rfl rfl (λh2=>?_) (λh2=>?_));exact Aa 12 [2] (y<|λ_=>AL (λw f hM=>Yj rfl (Ah rfl) (Ac rfl Ex hM.k2 rfl) (Ah rfl) (Ah rfl)) (λw f hM=>(by rw[VP h1 h2];exact⟨(none,0),f,rfl,tQ,hM.exm,⟨Nat.zero_le _,.inl rfl⟩,tQ⟩)));refine Aa 6 [] (λ_=>?_);obtain⟨⟨bs,hbs⟩,hrt⟩:=WK h1 h2;refine Br rfl rfl (eC mL rfl rfl) (λw f hM=>RJ w f hM.vl (Db src).1 na nc (Ho src).size (Ho src).txb (Wa hbs) (Ru (Ho src).wft) hM.f1) (λ_=>⟨DI.mono,tQ⟩) ?_;rintro⟨ra,rc⟩ -;refine Aa 11 [0] (λb4=>y<|λ_=>Cv [0,1,2] Ak (rd [0,1,2,3] (.br 4 (.rd 5 (.rd 6 .fin)) .fin)) rfl kR<|A1 4 [0] (y<|λ_=>Af rfl ?_ Aj));exact Aa 2 [3] (y<|λ_=>Au [0,1,2] rfl<|A1 2 [] (λ_=>Bf<|Aa 2 [] (λ_=>AL (λw f hM=>Yj rfl (Ah rfl) (Ac rfl Ex hM.k3 rfl) (Ah rfl) (Ah rfl)) (λw f hM=>(by rw[hrt];exact⟨(ra,rc),f,rfl,tQ,hM.exm,hM.f0,tQ⟩)))))
theorem Sg(w:World)(f:Fq)(hv:Vl w f)(hJ:CX w f)(hG:EE w f):Bo prog 6 #[S XN] w (Bx (α:=Option Addr×Nat) (λx=>.tuple #[.slice x.1 1 x.2,.agg #[.int .i64 0,.int .i64 0],.int .i64 0,.bool true]) (λ_=>True) (λx=>[λw f=>DI w f nX x.1 x.2]) w f):=by
 have h:=MF w f hv hJ hG XN;rw[iC] at h;exact h
theorem R4(w:World)(f:Fq)(hv:Vl w f)(hJ:CX w f)(hG:EE w f):Bo prog 6 #[S X4] w (Bx (α:=Option Addr×Nat) (λx=>.tuple #[.slice x.1 0 x.2,.agg #[.int .i64 1,.int .i64 9],.int .i64 17,.bool true]) (λ_=>True) (λx=>[λw f=>DI w f ([]:List (lU×lU)) x.1 x.2]) w f):=by
 have h:=MF w f hv hJ hG X4;rw[jD] at h;exact h
theorem Nb(w:World)(f:Fq)(hv:Vl w f)(hJ:CX w f)(hG:EE w f) :
   Bo prog 8 #[] w (Bx (α:=Unit) (λ_=>.bool true) (λ_=>True) (λ_=>[]) w f):=by
 refine Cg (X:=X0 w f) (H:=[]) (R:=[]) (B:=[]) (Fs:=[λw f=>CX w f,λw f=>EE w f]) (f:=f) func8 rfl rfl rfl (BS hv ⟨hJ,hG,tQ⟩ ⟨CX.mono,EE.mono,tQ⟩)<|Aa 7 [] (λ_=>Br rfl rfl (eC fS rfl rfl) (λw f hM=>Sg w f hM.vl hM.f0 hM.f1) (λ_=>⟨DI.mono,tQ⟩) ?_);rintro⟨ba,bc⟩ -;refine Kb (α:=Nat×Nat) (λx=>ba=some ⟨x.1,x.2,none⟩) (λx=>[⟨x.1,x.2,bC nX⟩]) (λx=>[]) (λw f hM=>let ⟨x,h1,h2⟩:=DI.opn hM.f0 (List.cons_ne_nil _ _);⟨x,h1,oE h2,nE⟩) (λx=>Aw.mem tQ) ?_;rintro⟨eb,eo⟩ rfl;refine Aa 14 [0] (λb1=>y<|λ_=>Br rfl rfl (eC fS rfl rfl) (λw f hM=>R4 w f hM.vl hM.f1 hM.f2) (λ_=>⟨DI.mono,tQ⟩) ?_);rintro⟨da,dc⟩ -;exact Aa 41 [0,100,1,0] (λb2=>y<|And.intro dC<|y2<|y<|λ_=>D6 rfl rfl (λw f hM=>Y8 nO rfl rfl)<|Aa 5 [] (λ_=>AL (C3 rfl rfl) (λw f hM=>⟨(),f,rfl,tQ,hM.exm,tQ⟩)))
end Go.Proofs.YtelmolopaolbcaaGreatDoor
namespace Go.SP
open Go.SW Go.RowKit
abbrev GR:=lU×lU×Int
def gV(x:GR):List Value:=[S x.1,S x.2.1,.int .i64 x.2.2]
def Jp(w:World)(f:Fq)(l:List GR)(a:Option Addr)(c:Nat):Prop:=l.length≤c∧(l=[]∨∃b off,a=some ⟨b,off,none⟩∧Cs w f b off (l.flatMap gV))
variable {f:Fq}{have_:List GR}{i:Nat}{a:Option Addr}{w:World}
theorem Jp.mono{l:List GR}{c:Nat}:EY (λw f=>Jp w f l a c):=λ_ _ _ _ h hF=>⟨h.1,h.2.imp id λ⟨b,off,h1,h2⟩=>⟨b,off,h1,h2.mono hF⟩⟩
theorem Jp.get{l:List GR}{c:Nat}{x:GR}(h:Jp w f l a c)(hx:l[i]?=some x):∃b off,a=some ⟨b,off,none⟩∧Cs w f b (off+i*3) (gV x):=by
 rcases h.2 with h|⟨b,off,h1,h2⟩
 · subst h;cases hx
 · exact⟨b,off,h1,Cs.flat gV 3 (λ_=>rfl) l off i _ h2 hx⟩
theorem Ym:∀l:List (lU×lU),bC l=l.flatMap λx=>[S x.1,S x.2]
 | []=>rfl
 |(u,v)::l=>by rw[bC,Ym l];rfl
theorem DI.getR{l:List (lU×lU)}{c:Nat}{n t:lU}(h:DI w f l a c)(hx:l[i]?=some (n,t)):∃b off,a=some ⟨b,off,none⟩∧Cs w f b (off+i*2) [S n,S t]:=by
 rcases h.2 with h|⟨b,off,h1,h2⟩
 · subst h;cases hx
 · rw[Ym] at h2
   exact⟨b,off,h1,Cs.flat (λx:lU×lU=>[S x.1,S x.2]) 2 (λ_=>rfl) l off i _ h2 hx⟩
def Hu(n t:lU)(h:GR):Bool:=h.1==n&&!(h.2.1==t)
def IM(have_:List GR)(want:List (lU×lU)):Int:=if want.all (λw=>!have_.any (Hu w.1 w.2)) then 0 else 12
theorem Zq{α:Type}{p:α→Bool}{l:List α}{x:α}(hx:l[i]?=some x)(h:(l.take i).any p=false)(hp:p x=false):(l.take (i+1)).any p=false:=by
 rw[BA hx,List.any_append,h];simp[hp]
theorem Xi{α:Type}{p:α→Bool}{l:List α}{x:α}(hx:l[i]?=some x)(hp:p x=true):l.any p=true:=List.any_eq_true.2 ⟨x,List.mem_of_getElem? hx,hp⟩
theorem Z1{α:Type}{p:α→Bool}{l:List α}{x:α}(hx:l[i]?=some x)(h:(l.take i).all p=true)(hp:p x=true):(l.take (i+1)).all p=true:=by
 rw[BA hx,List.all_append,h];simp[hp]
theorem cH{want:List (lU×lU)}{n t:lU}(hx:want[i]?=some (n,t))(h:have_.any (Hu n t)=true):IM have_ want=12:=by
 unfold IM;rw[if_neg];intro hh;have:=List.all_eq_true.1 hh _ (List.mem_of_getElem? hx);rw[h] at this;cases this
theorem YZ{want:List (lU×lU)}(h:want.all (λw=>!have_.any (Hu w.1 w.2))=true):IM have_ want=0:=if_pos h
end Go.SP
namespace Go.Proofs.YtelmolopaolbcaaGreatDoor
open Go.SW Go.SP Go.RowKit Go.Proofs.Tryz
theorem TI(w:World)(f:Fq)(hv:Vl w f)(xb:Nat)(wn wt:lU)(hB:AI w xb [S wn,S wt] 34)(h:GR) :
   Bo prog 15 #[.agg #[S h.1,S h.2.1,.int .i64 h.2.2],.pointer (some ⟨xb,0,none⟩)] w (Bx (α:=Unit) (λ_=>.bool (Hu wn wt h)) (λ_=>True) (λ_=>[]) w f):=by
 have hlx:=hB.lt;refine Cg (X:=X0 w f) (H:=[]) (R:=[]) (B:=[]) (Fs:=[]) (f:=f) func15 rfl rfl rfl (BS hv tQ tQ)<|Aa 11 [0] (λb1=>y<|λ_=>D6 rfl rfl (λw f hM=>Ai rfl Zw ((hM.stp.block xb hlx (λh=>h)).trans hB) rfl)<|Aa 2 [] (λ_=>AJ 9 rfl rfl (λh1=>?_) (λh1=>?_)));exact Aa 3 [0] (y<|λ_=>D6 rfl rfl (λw f hM=>Ai rfl Zw ((hM.stp.block xb hlx (λh=>h)).trans hB) rfl)<|Aa 6 [] (λ_=>AL (C3 rfl rfl) (λw f hM=>⟨(),f,(by simp[Hu,h1]),tQ,hM.exm,tQ⟩)));exact Aa 10 [] (λ_=>AL (C3 rfl rfl) (λw f hM=>⟨(),f,(by simp[Hu,h1]),tQ,hM.exm,tQ⟩))
theorem RW(w:World)(f:Fq)(hv:Vl w f)(xb:Nat)(wn wt:lU)(hB:AI w xb [S wn,S wt] 34)(l:List GR)(a:Option Addr)(c:Nat)(hl:l.length≤1000000)(hG:Jp w f l a c) :
   Bo prog 36 #[.slice a l.length c,.func (.func 15) #[] #[.pointer (some ⟨xb,0,none⟩)]] w (Bx (α:=Int) (λx=>.int .i64 x) (λx=>decide (0≤x)=l.any (Hu wn wt)) (λ_=>[]) w f):=by
 have hlx:=hB.lt;refine Cg (X:=X0 w f) (H:=[]) (R:=[]) (B:=[]) (Fs:=[λw f=>Jp w f l a c]) (f:=f) func36 rfl rfl rfl (BS hv ⟨hG,tQ⟩ ⟨Jp.mono,tQ⟩)<|Aa 14 [] (λ_=>?_);refine EZ (α:=Nat) (λi=>l.length-i) (λi=>i≤l.length∧(l.take i).any (Hu wn wt)=false) (λi=>(E4 0 (.slice a l.length c) 1 (.func (.func 15) #[] #[.pointer (some ⟨xb,0,none⟩)]) 7 (.int .i64 (l.length:Int)) 8 (.int .i64 (i:Int)))) (λi=>X0 w f) (λi=>[]) (λi=>[]) (λi=>[]) (λi=>[λw f=>Jp w f l a c]) (0) ⟨oM,rfl⟩ lE (λw f hM=>hM) ?_;rintro i ⟨hi,hno⟩;refine Aa 6 [] (λ_=>AJ 9 rfl rfl (λh1=>?_) (λh1=>?_));refine Aa 6 [] (λ_=>?_);have hil:i<l.length:=by have:=of_decide_eq_true h1;omega
 obtain⟨v0,hx⟩:∃v,l[i]?=some v:=⟨_,List.getElem?_eq_getElem hil⟩;refine Kb (α:=Nat×Nat) (λx=>a=some ⟨x.1,x.2,none⟩) (λx=>[⟨x.1,x.2+i*3,gV v0⟩]) (λx=>[]) (λw f hM=>let ⟨b,off,h1,h2⟩:=Jp.get hM.f0 hx;⟨(b,off),h1,oE h2,nE⟩) (λx=>Aw.mem tQ) ?_;rintro⟨b,off⟩ rfl;refine Aa 12 [100,0] (And.intro oM<|y2<|λ_=>Br rfl rfl (λ_=>Qi (caps:=[.pointer (some ⟨xb,0,none⟩)]) lO rfl rfl) (λw f hM=>TI w f hM.vl xb wn wt ((hM.stp.block xb hlx (λh=>h)).trans hB) v0) (λx=>trivial) ?_);rintro⟨⟩ -;refine Aa 2 [] (λ_=>AJ 16 rfl rfl (λh2=>?_) (λh2=>?_));exact Aa 10 [] (λ_=>U3<|Aa 2 [] (λ_=>AL (C3 rfl rfl) (λw f hM=>⟨(i:Int),f,rfl,(by rw[Xi hx h2];exact decide_eq_true oM),hM.exm,tQ⟩)));exact Aa 8 [] (And.intro ⟨oM,oM⟩<|λ_=>CY (i+1) (show l.length-(i+1)<l.length-i by omega) ⟨oM,Zq hx hno h2⟩ lE (λw f hM=>⟨_,hM.less sR sR nE (λ_ h=>h)⟩));refine Aa 3 [] (λ_=>EH<|Aa 8 [] (λ_=>?_));have hge:l.length≤i:=by have:=of_decide_eq_false h1;omega
 rw[List.take_of_length_le hge] at hno;exact AL (C3 rfl rfl) (λw f hM=>⟨-1,f,rfl,(by rw[hno];rfl),hM.exm,tQ⟩)
theorem MM(w:World)(f:Fq)(hv:Vl w f)(xb:Nat)(wn wt:lU)(hB:AI w xb [S wn,S wt] 34)(l:List GR)(a:Option Addr)(c:Nat)(hl:l.length≤1000000)(hG:Jp w f l a c) :
   Bo prog 14 #[.slice a l.length c,.func (.func 15) #[] #[.pointer (some ⟨xb,0,none⟩)]] w (Bx (α:=Unit) (λ_=>.bool (l.any (Hu wn wt))) (λ_=>True) (λ_=>[]) w f):=by
 have hlx:=hB.lt;refine Cg (X:=X0 w f) (H:=[]) (R:=[]) (B:=[]) (Fs:=[λw f=>Jp w f l a c]) (f:=f) func14 rfl rfl rfl (BS hv ⟨hG,tQ⟩ ⟨Jp.mono,tQ⟩)<|Aa 9 [] (λ_=>Br rfl rfl (eC lX rfl rfl) (λw f hM=>RW w f hM.vl xb wn wt ((hM.stp.block xb hlx (λh=>h)).trans hB) l a c hl hM.f0) (λx=>trivial) ?_);rintro ix hix;exact Aa 5 [] (λ_=>AL (C3 rfl rfl) (λw f hM=>⟨(),f,(by rw[← hix]),tQ,hM.exm,tQ⟩))
theorem Et(w:World)(f:Fq)(hv:Vl w f)(l:List GR)(ha:Option Addr)(hc:Nat)(want:List (lU×lU))(wa:Option Addr)(wc:Nat)(hl:l.length≤1000000)(hw:want.length≤1000000)(hG:Jp w f l ha hc)(hW:DI w f want wa wc) :
   Bo prog 10 #[.slice ha l.length hc,.slice wa want.length wc] w (Bx (α:=Unit) (λ_=>.int .i64 (IM l want)) (λ_=>True) (λ_=>[]) w f):=by
 refine Cg (X:=X0 w f) (H:=[]) (R:=[]) (B:=[]) (Fs:=[λw f=>Jp w f l ha hc,λw f=>DI w f want wa wc]) (f:=f) func10 rfl rfl rfl (BS hv ⟨hG,hW,tQ⟩ ⟨Jp.mono,DI.mono,tQ⟩)<|Aa 14 [] (λ_=>?_);refine EZ (α:=Nat) (λi=>want.length-i) (λi=>i≤want.length∧(want.take i).all (λw=>!l.any (Hu w.1 w.2))=true) (λi=>(E4 0 (.slice ha l.length hc) 7 (.slice wa want.length wc) 8 (.int .i64 (want.length:Int)) 9 (.int .i64 (i:Int)))) (λi=>X0 w f) (λi=>[]) (λi=>[]) (λi=>[]) (λi=>[λw f=>Jp w f l ha hc,λw f=>DI w f want wa wc]) (0) ⟨oM,rfl⟩ lE (λw f hM=>hM) ?_;rintro i ⟨hi,hno⟩;refine Aa 6 [] (λ_=>AJ 10 rfl rfl (λh1=>?_) (λh1=>?_));refine Aa 6 [] (λ_=>?_);have hil:i<want.length:=by have:=of_decide_eq_true h1;omega
 obtain⟨⟨wn,wt⟩,hx⟩:∃v,want[i]?=some v:=⟨_,List.getElem?_eq_getElem hil⟩;refine Kb (α:=Nat×Nat) (λx=>wa=some ⟨x.1,x.2,none⟩) (λx=>[⟨x.1,x.2+i*2,[S wn,S wt]⟩]) (λx=>[]) (λw f hM=>let ⟨b,off,h1,h2⟩:=DI.getR hM.f1 hx;⟨(b,off),h1,oE h2,nE⟩) (λx=>Aw.mem tQ) ?_;rintro⟨b,off⟩ rfl;refine Aa 10 [100,0,0] (And.intro oM<|y2<|λb1=>y<|λ_=>D6 rfl rfl (λw f hM=>Ni rfl)<|Br rfl rfl (eC oF rfl rfl) (λw f hM=>MM w f hM.vl b1 wn wt hM.k0 l ha hc hl hM.f0) (λx=>trivial) ?_);rintro⟨⟩ -;refine Aa 2 [] (λ_=>AJ 15 rfl rfl (λh2=>?_) (λh2=>?_));exact Aa 9 [] (λ_=>U3<|Aa 2 [] (λ_=>AL (C3 rfl rfl) (λw f hM=>⟨(),f,(by rw[cH hx h2]),tQ,hM.exm,tQ⟩)));exact Aa 8 [] (And.intro ⟨oM,oM⟩<|λ_=>CY (i+1) (show want.length-(i+1)<want.length-i by omega) ⟨oM,Z1 hx hno (by rw[h2];rfl)⟩ lE (λw f hM=>⟨_,hM.less (sD sZ) sR nE (λ_ h=>h)⟩));refine Aa 3 [] (λ_=>EH<|Aa 8 [] (λ_=>?_));have hge:want.length≤i:=by have:=of_decide_eq_false h1;omega
 rw[List.take_of_length_le hge] at hno;exact AL (C3 rfl rfl) (λw f hM=>⟨(),f,(by rw[YZ hno]),tQ,hM.exm,tQ⟩)
end Go.Proofs.YtelmolopaolbcaaGreatDoor
namespace Go.SW
open Go.RowKit
section
variable{P:Program}{σ:Ba}{w:World}{ty T:TypeId}{x y:Operand}
variable {zl:List Value}{b bytes k yc:Nat}{ya:Option Addr}{e:TypeId}
theorem cQ{size:Nat}(hT:Lb P T=some (e,size,bytes,zl)){c:Nat}(hs:ev σ x=some (.slice (some ⟨b,0,none⟩) k c))(hx:ev σ y=some (.slice ya 0 yc))(hkc:k≤c) :
   AG P σ (.call {callee:=.builtin .append,args:=#[x,y],argTypes:=#[T,T]}) ty w (.slice (some ⟨b,0,none⟩) k c) w:=by
 unfold Lb at hT
 split at hT
 · rename_i e' hu
   split at hT
   · rename_i i hi
     have hf:(Builtin.firstCells i.size 0 (.slice ya 0 yc)).run P w=.ok #[] w:=by
       cases ya with
       |none=>rfl
       |some a=>exact run_firstCells_some (P:=P) w i.size 0 a 0 yc [] (by simp) (λj u hj=>by cases hj)
     have hr:(Builtin.append_ #[T,T] ty #[.slice (some ⟨b,0,none⟩) k c,.slice ya 0 yc]).run P w=.ok (.slice (some ⟨b,0,none⟩) k c) w:=by
       simp[Builtin.append_,run_underlying hu,sizeOf,typeInfo,hi,Builtin.lenOf,hkc,hf,storeCells]
     intro ρ _ _ _ _ hρ;simp only[execOp,resolve,invoke,builtin,Sem.run_bind,Sem.run_pure,Result.andThen_ok,List.map_toArray,List.map_cons,List.map_nil,hρ _ _ hs,hρ _ _ hx,hr]
   · cases hT
 · cases hT
end
section
variable{P:Program}{n:Nat}{Q:AT}{ds:List Deferred}{X:Cx}{R:List RB}{B:List FB}{Fs:List (World→Fq→Prop)}{fs:List Fr}{σ:Ba}{H:List HB}
variable{all r:List Oper}{ty T:TypeId}{pos:String}{af:Array Edge}{g:Option (Nat×Bool)}{d:Nat}{x y:Operand}
variable {xs zl:List Value}{b bytes k m yc:Nat}{ya:Option Addr}{e:TypeId}
theorem qT{size:Nat}{c:Nat}{news:List Value}{R':Option Addr→Nat→List RB}(i:Nat)(hg:gd all σ g=some true)(hd:Nat.blt d n=true)(hT:Lb P T=some (e,size,bytes,zl))(hzl:Nat.beq zl.length size=true)(hsz:Nat.blt 0 size=true)
   (hs:ev σ x=some (.slice (some ⟨b,0,none⟩) k c)) (hx:ev σ y=some (.slice ya m yc)) (hR:getR R i=some ⟨e,size,some ⟨b,0,none⟩,c,k,xs⟩)
   (hY:∀w f,AO X w f H R B Fs→(m=0∧news=[])∨∃q off,ya=some ⟨q,off,none⟩∧Cs w f q off news) (hl:news.length=m*size) (h1:∀v∈news,v.oneCell'=true)
   (hS:∀a' c',P9 R i ⟨e,size,a',c',k+m,xs++news⟩=some (R' a' c')) (h47:(k+m)*bytes≤140737488355328) (h63:k+m≤9223372036854775807)
   (h:∀a' c',A3 P n Q ds X (R' a' c') B Fs (.ops all r) fs (AA σ d (.slice a' (k+m) c')) H) :
   A3 P n Q ds X R B Fs (.ops all (⟨some d,.call {callee:=.builtin .append,args:=#[x,y],argTypes:=#[T,T]},ty,pos,af,g⟩::r)) fs σ H:=λw f hM=>by
 rcases Nat.eq_zero_or_pos m with h0|h0
 · subst h0
   have hn:news=[]:=List.eq_nil_of_length_eq_zero (by simpa using hl);subst hn;have hrow:=hM.row _ (CW hR);have hkc:k≤c:=hrow.n_le;have hG:En (some ⟨b,0,none⟩) w (some ⟨b,0,none⟩) w:=⟨rfl,rfl,rfl,Nat.le_refl _,λ_ _ _=>rfl,.inl rfl⟩;have hS2:=hS (some ⟨b,0,none⟩) c;refine Bp hg (Ab hd (cQ hT hs hx hkc) ?_);have:=h (some ⟨b,0,none⟩) c w f (hM.grow hR hS2 (by rw[List.append_nil];exact hrow) hG);exact this
 · rcases hY w f hM with ⟨h2,_⟩|⟨q,off,rfl,hC⟩
   · omega
   · obtain⟨a',c',w',hr,hrw,hG⟩:=Qm (ty:=ty) hT hzl hsz hs hx (hM.row _ (CW hR)) (λj u hj=>by rw[DM];exact (hC j u hj).2) hl h1 h0 h47 h63
     exact Bp hg (Ab hd hr (h a' c' w' f (hM.grow hR (hS a' c') hrw hG)))
end
end Go.SW
namespace Go.SP
open Go.SW Go.RowKit
variable {f:Fq}{i k:Nat}{a:Option Addr}
theorem YQ{X:Cx}{w:World}{H:List HB}{R:List RB}{B:List FB}{Fs:List (World→Fq→Prop)}{T:TypeId}{c:Nat}{l:List GR}(hM:AO X w f H (⟨T,3,a,c,l.length,l.flatMap gV⟩::R) B Fs):∃f',AO X w f' H R B Fs∧Jp w f' l a c:=by
 have hr:=hM.row _ (.head _);rcases hr.2 with ⟨_,_,hz⟩|⟨b,q,ha,hb,hmc,_,hq,ht⟩
 · simp only at hz
   exact⟨f,hM.less (List.Sublist.refl _) (List.sublist_cons_self _ _) (λ_ h=>h) (λ_ h=>h),oM,.inl (by cases l with|nil=>rfl|cons _ _=>simp at hz)⟩
 · simp only at ha
   subst ha;obtain⟨f',hM'⟩:=hM.done (i:=0) rfl rfl;refine⟨f',hM'.less (List.Sublist.refl _) (List.Sublist.refl _) (λ_ h=>.tail _ h) (λ_ h=>h),hmc,.inr ⟨b,0,rfl,hM'.fro _ (.head _)⟩⟩
theorem Jp.news{w:World}{l:List GR}{c:Nat}(h:Jp w f l a c):(l.length=0∧l.flatMap gV=[])∨∃q off,a=some ⟨q,off,none⟩∧Cs w f q off (l.flatMap gV):=h.2.imp (λh=>by subst h;exact⟨rfl,rfl⟩) id
theorem DI.news{w:World}{l:List (lU×lU)}{c:Nat}(h:DI w f l a c):(l.length=0∧bC l=[])∨∃q off,a=some ⟨q,off,none⟩∧Cs w f q off (bC l):=h.2.imp (λh=>by subst h;exact⟨rfl,rfl⟩) id
theorem XO:∀l:List GR,(l.flatMap gV).length=l.length*3
 | []=>rfl
 |x::l=>by rw[List.flatMap_cons,List.length_append,XO l];simp only[gV,List.length_cons,List.length_nil];omega
theorem UH:∀l:List (lU×lU),(bC l).length=l.length*2
 | []=>rfl
 |(u,v)::l=>by rw[bC,List.length_cons,List.length_cons,UH l,List.length_cons];omega
theorem iT(l:List GR):∀v∈l.flatMap gV,v.oneCell'=true:=λv hv=>by
 obtain⟨x,_,hx⟩:=List.mem_flatMap.1 hv;simp only[gV,List.mem_cons,List.not_mem_nil,or_false] at hx;rcases hx with rfl|rfl|rfl <;> rfl
theorem mC(l:List (lU×lU)):∀v∈bC l,v.oneCell'=true:=λv hv=>by
 rw[Ym] at hv;obtain⟨x,_,hx⟩:=List.mem_flatMap.1 hv;simp only[List.mem_cons,List.not_mem_nil,or_false] at hx;rcases hx with rfl|rfl <;> rfl
abbrev PR:=lU×lU
def fa(l:List PR)(i:Nat):List GR:=(l.take i).zipIdx.map λx=>(x.1.1,x.1.2,(x.2:Int))
def fx(l:List PR)(i:Nat):List GR:=((l.take i).map λx=>(x.1,x.2,(0:Int))).reverse
def fy(l:List PR)(i:Nat):List PR:=(l.take i).reverse
theorem aZ{l:List PR}{x:PR}(h:l[i]?=some x):fa l (i+1)=fa l i++[(x.1,x.2,(i:Int))]:=by
 have hl:(l.take i).length=i:=by rw[List.length_take];have:=(List.getElem?_eq_some_iff.1 h).1;omega
 unfold fa;rw[BA h,List.zipIdx_append,List.map_append,hl];simp
theorem cR{l:List PR}{x:PR}(h:l[i]?=some x):fx l (i+1)=(x.1,x.2,(0:Int))::fx l i:=by
 unfold fx;rw[BA h,List.map_append,List.reverse_append];rfl
theorem dP{l:List PR}{x:PR}(h:l[i]?=some x):fy l (i+1)=x::fy l i:=by
 unfold fy;rw[BA h,List.reverse_append];rfl
theorem HU{l:List PR}(h:i≤l.length):(fa l i).length=i:=by unfold fa;rw[List.length_map,List.length_zipIdx,List.length_take];omega
theorem JC{l:List PR}(h:i≤l.length):(fx l i).length=i:=by unfold fx;rw[List.length_reverse,List.length_map,List.length_take];omega
theorem JQ{l:List PR}(h:i≤l.length):(fy l i).length=i:=by unfold fy;rw[List.length_reverse,List.length_take];omega
def aC(w k:PR):Bool:=!(k.1==w.1)||k.2==w.2
def NQ(h:List PR)(w:List PR):Bool:=w.all λw=>h.all (aC w)
theorem Vq(l:List GR)(w:PR):l.any (Hu w.1 w.2)=!(l.map λx=>(x.1,x.2.1)).all (aC w):=by
 induction l with
 |nil=>rfl
 |cons x l ih =>
   rw[List.any_cons,ih,List.map_cons,List.all_cons];unfold Hu aC
   cases x.1==w.1 <;> cases x.2.1==w.2 <;> simp
variable {h:List PR}
theorem Si{l:List GR}{w w':List PR}(hl:∀p:PR→Bool,(l.map λx=>(x.1,x.2.1)).all p=h.all p)(hw:∀p:PR→Bool,w'.all p=w.all p):IM l w'=if NQ h w then 0 else 12:=by
 unfold IM NQ;rw[hw]
 have e:(λw:PR=>!l.any (Hu w.1 w.2))=λw=>h.all (aC w):=by
   funext w
   rw[Vq,Bool.not_not,hl]
 rw[e]
theorem Z8(h w:List PR):IM (fa h h.length) w=if NQ h w then 0 else 12:=by
 refine Si (λp=>?_) (λ_=>rfl)
 have e:(fa h h.length).map (λx=>(x.1,x.2.1))=h:=by
   unfold fa;rw[List.take_length,List.map_map];show h.zipIdx.map (λx=>(x.1.1,x.1.2))=h;exact List.zipIdx_map_fst 0 h
 rw[e]
theorem XW(h w:List PR):IM (fx h h.length) (fy w w.length)=if NQ h w then 0 else 12:=by
 refine Si (λp=>?_) (λp=>?_)
 · have e:(fx h h.length).map (λx=>(x.1,x.2.1))=h.reverse:=by
     unfold fx;rw[List.take_length,List.map_reverse,List.map_map];show (h.map λx=>(x.1,x.2)).reverse=_;rw[show (λx:PR=>(x.1,x.2))=id from rfl,List.map_id]
   rw[e,List.all_reverse]
 · unfold fy
   rw[List.take_length,List.all_reverse]
theorem OK(l:List GR):IM l []=0:=rfl
theorem OQ(w:List PR):IM [] w=0:=by unfold IM;simp
theorem kG{x y:PR}(h:(y.1 != x.1)=true):aC x y=true:=by unfold aC;rw[show (y.1==x.1)=false by simpa using h];rfl
theorem jA{x y:PR}(h:(y.1 != x.1)=false):aC x y=(y.2==x.2):=by unfold aC;rw[show (y.1==x.1)=true by simpa using h];rfl
theorem cO(k:Nat):∀l:List PR,∃r,bC l=bC (l.take k)++r:=λl=>⟨bC (l.drop k),by rw[← bC_app,List.take_append_drop]⟩
theorem DI.take{w:World}{l:List PR}{c:Nat}(k:Nat)(h:DI w f l a c):DI w f (l.take k) a c:=by
 refine⟨Nat.le_trans (by rw[List.length_take];omega) h.1,h.2.imp (λh=>by rw[h,List.take_nil]) λ⟨b,off,h1,h2⟩=>⟨b,off,h1,λj v hj=>h2 j v ?_⟩⟩;obtain⟨r,hr⟩:=cO k l;rw[hr,List.getElem?_append_left (List.getElem?_eq_some_iff.1 hj).1];exact hj
def QF(h w:List PR)(i k:Nat):Bool:=NQ h (w.take i)&&(match w[i]? with|some x=>(h.take k).all (aC x)|none=>true)
theorem mM{w:List PR}:QF h w i 0=NQ h (w.take i):=by unfold QF;cases w[i]? <;> simp
theorem Ln{w:List PR}{x y:PR}(hx:w[i]?=some x)(hy:h[k]?=some y):QF h w i (k+1)=(QF h w i k&&aC x y):=by
 unfold QF;rw[hx,BA hy];simp[List.all_append,Bool.and_assoc]
theorem X2{w:List PR}{x:PR}(hx:w[i]?=some x):QF h w i h.length=NQ h (w.take (i+1)):=by
 unfold QF NQ;rw[hx,BA hx,List.take_length,List.all_append];simp
end Go.SP
namespace Go.Proofs.YtelmolopaolbcaaGreatDoor
open Go.SW Go.SP Go.RowKit Go.Proofs.Tryz
theorem LD(w:World)(f:Fq)(hv:Vl w f)(hJ:CX w f)(hG:EE w f)(l1:List PR)(ha:Option Addr)(hc:Nat)(hl1c:l1.length≤hc)(hB:DI w f l1 ha hc)(l2:List PR)(wa:Option Addr)(wc:Nat)(hl2c:l2.length≤wc)(hW:DI w f l2 wa wc) :
   Bo prog 4 #[.slice ha l1.length hc,.slice wa l2.length wc] w (Bx (α:=Unit) (λ_=>.bool true) (λ_=>True) (λ_=>[]) w f):=by
 refine Cg (X:=X0 w f) (H:=[]) (R:=[]) (B:=[]) (Fs:=[λw f=>CX w f,λw f=>EE w f,λw f=>DI w f l1 ha hc,λw f=>DI w f l2 wa wc]) (f:=f) func4 rfl rfl rfl (BS hv ⟨hJ,hG,hB,hW,tQ⟩ ⟨CX.mono,EE.mono,DI.mono,DI.mono,tQ⟩)<|Aa 6 [] (λ_=>Cv [] Ak (rd [0,1,2,3,4,5,6,7,8,9,10,11] .fin) rfl kR<|A1 3 [] (λ_=>F6 rfl rfl rfl (λw hK=>Qo rfl rfl)<|F6 rfl rfl rfl (λw hK=>I9 (i:=(l1.take 30).length) (by rw[List.length_take];split <;> omega) rfl rfl ZW (by rw[List.length_take];have:=hl1c;omega))<|A1 3 [] (λ_=>F6 rfl rfl rfl (λw hK=>Qo rfl rfl)<|F6 rfl rfl rfl (λw hK=>I9 (i:=(l2.take 30).length) (by rw[List.length_take];split <;> omega) rfl rfl ZW (by rw[List.length_take];have:=hl2c;omega))<|A1 2 [] (λ_=>?_))));refine Bf<|Aa 2 [] (λ_=>CP (λw f=>DI w f (l1.take 30) ha hc) (λw f hM=>DI.take 30 hM.f2) DI.mono<|CP (λw f=>DI w f (l2.take 30) wa wc) (λw f hM=>DI.take 30 hM.f4) DI.mono ?_);have hn1:(l1.take 30).length≤30:=by rw[List.length_take];omega
 have hn2:(l2.take 30).length≤30:=by rw[List.length_take];omega
 generalize l1.take 30=h at hn1 ⊢;generalize l2.take 30=ww at hn2 ⊢;refine Aa 23 [] (λ_=>CP (λw f=>Jp w f (fx h 0) none 0) (λw f hM=>⟨Nat.le_refl _,.inl rfl⟩) Jp.mono<|MD 40 3 ?_);refine EZ (α:=Nat×Option Addr×Nat×Option Addr×Nat) (λx=>h.length-x.1) (λx=>x.1≤h.length) (λx=>(E8 0 (.slice ha h.length hc) 1 (.slice wa ww.length wc) 5 (.slice x.2.1 x.1 x.2.2.1) 6 (.slice x.2.2.2.1 x.1 x.2.2.2.2) 7 (.slice none 0 0) 8 (.slice none 0 0) 9 (.bool true) 10 (.int .i64 (x.1:Int)))) (λx=>X0 w f) (λx=>[]) (λx=>[⟨40,3,x.2.1,x.2.2.1,x.1,(fa h x.1).flatMap gV⟩]) (λx=>[]) (λx=>[λw f=>CX w f,λw f=>EE w f,λw f=>DI w f h ha hc,λw f=>DI w f ww wa wc,λw f=>Jp w f (fx h x.1) x.2.2.2.1 x.2.2.2.2]) (0,none,0,none,0) (Nat.zero_le _) lE (λw f hM=>hM.less sR sR nE (mR [3,4,2,1,0])) ?_;rintro⟨i,aa,ac,xa,xc⟩ hi;dsimp only at hi ⊢;refine Aa 9 [] (λ_=>AJ 27 rfl rfl (λh1=>?_) (λh1=>?_));refine Aa 6 [] (λ_=>?_);have hil:i<h.length:=by have:=of_decide_eq_true h1;omega
 obtain⟨⟨hn,ht⟩,hx⟩:∃v,h[i]?=some v:=⟨_,List.getElem?_eq_getElem hil⟩;refine Kb (α:=Nat×Nat) (λx=>ha=some ⟨x.1,x.2,none⟩) (λx=>[⟨x.1,x.2+i*2,[S hn,S ht]⟩]) (λx=>[]) (λw f hM=>let ⟨b,off,h1,h2⟩:=DI.getR hM.f2 hx;⟨(b,off),h1,oE h2,nE⟩) (λx=>Aw.mem tQ) ?_;rintro⟨eb,eo⟩ he;subst he;refine Cv [] Ak (rd [0,1,2,3,4,5,6,7,8,9,10,11,12] (.br 13 (.br 14 (.rd 15 .fin) .fin) .fin)) rfl kR<|A1 13 [100,0,100,1] (And.intro oM<|y2<|And.intro oM<|y2<|λ_=>Af rfl ?_ Aj);refine Aa 2 [] (λb1=>λ_=>Au [] rfl<|Af rfl ?_ Aj);refine CT 0 0 rfl rfl fL rfl rfl rfl rfl rfl rfl rfl rfl (λ_ _=>rfl) oM oM λra2 rc2=>Aa 1 [] (λ_=>Au [] rfl<|A1 1 [] (λ_=>Bf<|Aa 1 [] (λ_=>Cv [0] Ak (rd [0,1,2,3,4,5,6,7,8,9,10,12] (.br 11 (.br 13 (.rd 14 .fin) .fin) .fin)) rfl kR<|A1 12 [100,0,100,1] (And.intro oM<|y2<|And.intro oM<|y2<|λ_=>Af rfl ?_ Aj))));refine Aa 2 [] (λb2=>λ_=>Au [1] rfl<|Af rfl ?_ Aj);exact mS 0 3 1 rfl rfl rfl dC<|qT 0 rfl rfl fL rfl rfl rfl rfl rfl (news:=(fx h i).flatMap gV) (λw f hM=>by have h9:=Jp.news hM.f4;rw[JC (by omega)] at h9;exact h9) (by rw[XO,JC (by omega)]) (iT _) (λ_ _=>rfl) oM oM λxa2 xc2=>Aa 1 [] (λ_=>Au [0] rfl<|A1 1 [] (λ_=>Bf<|Aa 2 [] (λ_=>LF (λw f=>Jp w f (fx h (i+1)) xa2 xc2) Jp.mono (λw f hM=>by rw[show 1+i=((hn,ht,(0:Int))::fx h i).length by rw[List.length_cons,JC (by omega)];omega] at hM;rw[cR hx];exact YQ hM)<|Aa 5 [] (And.intro ⟨oM,oM⟩<|λ_=>CY ((i+1,ra2,rc2,xa2,xc2)) (show h.length-(i+1)<h.length-i by omega) (show i+1≤h.length by omega) (oR rfl rfl rfl (show some (Value.slice xa2 (1+i) xc2)=some (Value.slice xa2 (i+1) xc2) by rw[Nat.add_comm]) rfl rfl rfl rfl) (λw f hM=>⟨_,by have hM9:=hM.less (sD sZ) sR (B':=[]) (F':=[λw f=>CX w f,λw f=>EE w f,λw f=>DI w f h (some ⟨eb,eo,none⟩) hc,λw f=>DI w f ww wa wc,λw f=>Jp w f (fx h (i+1)) xa2 xc2]) nE (mR [1,2,3,4,0]);dsimp only;rw[aZ hx,List.flatMap_append];exact hM9⟩)))));refine Aa 3 [] (λ_=>EH<|Aa 4 [] (λ_=>?_));obtain rfl:i=h.length:=by have:=of_decide_eq_false h1;omega
 refine LF (λw f=>Jp w f (fa h h.length) aa ac) Jp.mono (λw f hM=>YQ (l:=fa h h.length) (by rw[HU (Nat.le_refl _)];exact hM))<|Aa 5 [] (λ_=>CP (λw f=>DI w f (fy ww 0) none 0) (λw f hM=>⟨Nat.le_refl _,.inl rfl⟩) DI.mono<|MD 34 2 ?_);refine EZ (α:=Nat×Option Addr×Nat×Option Addr×Nat) (λx=>ww.length-x.1) (λx=>x.1≤ww.length) (λx=>(E8 0 (.slice ha h.length hc) 1 (.slice wa ww.length wc) 5 (.slice aa h.length ac) 6 (.slice xa h.length xc) 7 (.slice x.2.1 x.1 x.2.2.1) 8 (.slice x.2.2.2.1 x.1 x.2.2.2.2) 9 (.bool (NQ h (ww.take x.1))) 11 (.int .i64 (x.1:Int)))) (λx=>X0 w f) (λx=>[]) (λx=>[⟨34,2,x.2.1,x.2.2.1,x.1,bC (ww.take x.1)⟩]) (λx=>[]) (λx=>[λw f=>CX w f,λw f=>EE w f,λw f=>DI w f h ha hc,λw f=>DI w f ww wa wc,λw f=>Jp w f (fa h h.length) aa ac,λw f=>Jp w f (fx h h.length) xa xc,λw f=>DI w f (fy ww x.1) x.2.2.2.1 x.2.2.2.2]) (0,none,0,none,0) (Nat.zero_le _) lE (λw f hM=>hM.less .slnil sR nE (mR [2,3,4,5,1,6,0])) ?_;rintro⟨i,ba,bc,ya,yc⟩ hi;dsimp only at hi ⊢;refine Aa 9 [] (λ_=>AJ 62 rfl rfl (λh2=>?_) (λh2=>?_));refine Aa 6 [] (λ_=>?_);have hil:i<ww.length:=by have:=of_decide_eq_true h2;omega
 obtain⟨⟨wn,wt⟩,hx⟩:∃v,ww[i]?=some v:=⟨_,List.getElem?_eq_getElem hil⟩;refine Kb (α:=Nat×Nat) (λx=>wa=some ⟨x.1,x.2,none⟩) (λx=>[⟨x.1,x.2+i*2,[S wn,S wt]⟩]) (λx=>[]) (λw f hM=>let ⟨b,off,h1,h2⟩:=DI.getR hM.f3 hx;⟨(b,off),h1,oE h2,nE⟩) (λx=>Aw.mem tQ) ?_;rintro⟨wb,wo⟩ he;subst he;refine Cv [] Ak (rd [0,1,2,3,4,5,6,7,8,9,10,11] (.br 12 (.br 13 (.rd 14 .fin) .fin) .fin)) rfl kR<|A1 12 [100,0,100,1] (And.intro oM<|y2<|And.intro oM<|y2<|λ_=>Af rfl ?_ Aj);refine Aa 2 [] (λb3=>λ_=>Au [] rfl<|Af rfl ?_ Aj);refine CT 0 0 rfl rfl XD rfl rfl rfl rfl rfl rfl rfl rfl (λ_ _=>rfl) oM oM λba2 bc2=>Aa 1 [] (λ_=>Au [] rfl<|A1 1 [] (λ_=>Bf<|Aa 2 [] (λ_=>Cv [0] Ak (rd [0,1,2,3,4,5,6,7,8,9,10,12] (.br 11 (.br 13 (.rd 14 .fin) .fin) .fin)) rfl kR<|A1 12 [100,0,100,1] (And.intro oM<|y2<|And.intro oM<|y2<|λ_=>Af rfl ?_ Aj))));refine Aa 2 [] (λb4=>λ_=>Au [1] rfl<|Af rfl ?_ Aj);refine mS 0 2 1 rfl rfl rfl dC<|qT 0 rfl rfl XD rfl rfl rfl rfl rfl (news:=bC (fy ww i)) (λw f hM=>by have h9:=DI.news hM.f6;rw[JQ (by omega)] at h9;exact h9) (by rw[UH,JQ (by omega)]) (mC _) (λ_ _=>rfl) oM oM λya2 yc2=>Aa 1 [] (λ_=>Au [0] rfl<|A1 1 [] (λ_=>Bf<|Aa 2 [] (λ_=>LF (λw f=>DI w f (fy ww (i+1)) ya2 yc2) DI.mono (λw f hM=>by rw[show 1+i=((wn,wt)::fy ww i).length by rw[List.length_cons,JQ (by omega)];omega] at hM;rw[dP hx];exact Pe hM)<|Aa 5 [] (λ_=>?_))));refine EZ (α:=Nat) (λk=>h.length-k) (λk=>k≤h.length) (λk=>(E9 0 (.slice ha h.length hc) 1 (.slice (some ⟨wb,wo,none⟩) ww.length wc) 5 (.slice aa h.length ac) 6 (.slice xa h.length xc) 7 (.slice ba2 (i+1) bc2) 8 (.slice ya2 (1+i) yc2) 9 (.bool (QF h ww i k)) 11 (.int .i64 (i:Int)) 12 (.int .i64 (k:Int)))) (λk=>X0 w f) (λk=>[]) (λk=>[⟨34,2,ba2,bc2,i+1,bC (ww.take i)++[S wn,S wt]⟩]) (λk=>[]) (λk=>[λw f=>CX w f,λw f=>EE w f,λw f=>DI w f h ha hc,λw f=>DI w f ww (some ⟨wb,wo,none⟩) wc,λw f=>Jp w f (fa h h.length) aa ac,λw f=>Jp w f (fx h h.length) xa xc,λw f=>DI w f (fy ww (i+1)) ya2 yc2]) (0) (Nat.zero_le _) (WV rfl rfl rfl rfl rfl rfl (by rw[mM];rfl) rfl rfl) (λw f hM=>hM.less (sD sZ) sR nE (mR [1,2,3,4,5,6,0])) ?_;rintro k hk;refine Aa 9 [] (λ_=>AJ 96 rfl rfl (λh3=>?_) (λh3=>?_));refine Aa 5 [] (λ_=>?_);have hkl:k<h.length:=by have:=of_decide_eq_true h3;omega
 obtain⟨⟨hn,ht⟩,hy⟩:∃v,h[k]?=some v:=⟨_,List.getElem?_eq_getElem hkl⟩;refine Kb (α:=Nat×Nat) (λx=>ha=some ⟨x.1,x.2,none⟩) (λx=>[⟨x.1,x.2+k*2,[S hn,S ht]⟩]) (λx=>[]) (λw f hM=>let ⟨b,off,h1,h2⟩:=DI.getR hM.f2 hy;⟨(b,off),h1,oE h2,nE⟩) (λx=>Aw.mem tQ) ?_;rintro⟨eb,eo⟩ he;subst he;refine Kb (α:=Nat×Nat) (λx=>(some ⟨wb,wo,none⟩:Option Addr)=some ⟨x.1,x.2,none⟩) (λx=>[⟨x.1,x.2+i*2,[S wn,S wt]⟩]) (λx=>[]) (λw f hM=>let ⟨b,off,h1,h2⟩:=DI.getR hM.f3 hx;⟨(b,off),h1,oE h2,nE⟩) (λx=>Aw.mem tQ) ?_;rintro⟨wb2,wo2⟩ he
 cases he
 refine Cv [] Ak (rd [0,1,2,3,4,5,6,7,8,9,10,11,12,13,14,15,16,17,18,19,20,21,22,23,24,25,26,27] .fin) rfl kR<|A1 2 [] (λ_=>Iq 100 rfl (λh4=>?_) (λh4=>?_));refine A1 12 [101,0,100,0] (And.intro oM<|y2<|And.intro oM<|y2<|λ_=>Iq 112 rfl (λh5=>?_) (λh5=>?_));exact A1 14 [] (λ_=>Bf<|Aa 7 [] (And.intro ⟨oM,oM⟩<|λ_=>CY (k+1) (show h.length-(k+1)<h.length-k by omega) (show k+1≤h.length by omega) (WV rfl rfl rfl rfl rfl rfl (by rw[Ln hx hy,h4,kG (x:=(wn,wt)) (y:=(hn,ht)) h5];rfl) rfl rfl) (λw f hM=>⟨_,hM.less .slnil sR nE (mR [0,1,2,3,4,5,6])⟩)));exact A1 14 [101,1,100,1] (And.intro oM<|y2<|And.intro oM<|y2<|λ_=>Bf<|Aa 7 [] (And.intro ⟨oM,oM⟩<|λ_=>CY (k+1) (show h.length-(k+1)<h.length-k by omega) (show k+1≤h.length by omega) (WV rfl rfl rfl rfl rfl rfl (by rw[Ln hx hy,h4,jA (x:=(wn,wt)) (y:=(hn,ht)) h5];rfl) rfl rfl) (λw f hM=>⟨_,hM.less .slnil sR nE (mR [0,1,2,3,4,5,6])⟩)));exact A1 26 [] (λ_=>Bf<|Aa 7 [] (And.intro ⟨oM,oM⟩<|λ_=>CY (k+1) (show h.length-(k+1)<h.length-k by omega) (show k+1≤h.length by omega) (WV rfl rfl rfl rfl rfl rfl (by rw[Ln hx hy,h4];rfl) rfl rfl) (λw f hM=>⟨_,hM.less .slnil sR nE (mR [0,1,2,3,4,5,6])⟩)));refine Aa 3 [] (λ_=>EH<|Aa 3 [] (λ_=>?_));obtain rfl:k=h.length:=by have:=of_decide_eq_false h3;omega
 exact Aa 5 [] (And.intro ⟨oM,oM⟩<|λ_=>CY ((i+1,ba2,bc2,ya2,yc2)) (show ww.length-(i+1)<ww.length-i by omega) (show i+1≤ww.length by omega) (oR rfl rfl rfl rfl rfl (show some (Value.slice ya2 (1+i) yc2)=some (Value.slice ya2 (i+1) yc2) by rw[Nat.add_comm]) (by dsimp only;rw[← X2 hx];rfl) rfl) (λw f hM=>⟨_,by have hM9:=hM.less .slnil sR (B':=[]) (F':=[λw f=>CX w f,λw f=>EE w f,λw f=>DI w f h ha hc,λw f=>DI w f ww (some ⟨wb,wo,none⟩) wc,λw f=>Jp w f (fa h h.length) aa ac,λw f=>Jp w f (fx h h.length) xa xc,λw f=>DI w f (fy ww (i+1)) ya2 yc2]) nE (mR [0,1,2,3,4,5,6]);dsimp only;rw[BA hx,SP.bC_app];exact hM9⟩));refine Aa 3 [] (λ_=>EH<|Aa 3 [] (λ_=>?_));obtain rfl:i=ww.length:=by have:=of_decide_eq_false h2;omega
 rw[List.take_length];refine LF (λw f=>DI w f ww ba bc) DI.mono (λw f hM=>Pe hM) ?_
 cases hfit:NQ h ww with
 |false =>
   refine Aa 3 [] (λ_=>Br (α:=Unit) (val:=λ_=>.int .i64 12) (q:=λ_=>True) (F':=λ_=>[]) rfl rfl (eC IJ rfl rfl) (λw f hM=>(by have h9:=Et w f hM.vl (fa h h.length) aa ac ww ba bc (by rw[HU (Nat.le_refl _)];omega) oM hM.f5 hM.f0;rw[HU (Nat.le_refl _),Z8,hfit,if_neg (by decide)] at h9;exact h9)) (λ_=>trivial) ?_);rintro⟨⟩ -;refine Aa 5 [] (λ_=>Br rfl rfl (eC eX rfl rfl) (λw f hM=>Nb w f hM.vl hM.f1 hM.f2) (λ_=>trivial) ?_);rintro⟨⟩ -;refine Aa 4 [] (λ_=>D6 rfl rfl (λw f hM=>Up eY rfl rfl)<|Aa 12 [] (λ_=>Br (α:=Unit) (val:=λ_=>.int .i64 12) (q:=λ_=>True) (F':=λ_=>[]) rfl rfl (eC IJ rfl rfl) (λw f hM=>(by have h9:=Et w f hM.vl (fx h h.length) xa xc (fy ww ww.length) ya yc (by rw[JC (Nat.le_refl _)];omega) (by rw[JQ (Nat.le_refl _)];omega) hM.f6 hM.f7;rw[JC (Nat.le_refl _),JQ (Nat.le_refl _),XW,hfit,if_neg (by decide)] at h9;exact h9)) (λ_=>trivial) ?_));rintro⟨⟩ -;refine Aa 5 [] (λ_=>Br (α:=Unit) (val:=λ_=>.int .i64 0) (q:=λ_=>True) (F':=λ_=>[]) rfl rfl (eC IJ rfl rfl) (λw f hM=>(by have h9:=Et w f hM.vl (fa h h.length) aa ac [] none 0 (by rw[HU (Nat.le_refl _)];omega) dC hM.f5 ⟨Nat.le_refl _,.inl rfl⟩;rw[HU (Nat.le_refl _),OK] at h9;exact h9)) (λ_=>trivial) ?_);rintro⟨⟩ -;refine Aa 4 [] (λ_=>Br (α:=Unit) (val:=λ_=>.int .i64 0) (q:=λ_=>True) (F':=λ_=>[]) rfl rfl (eC IJ rfl rfl) (λw f hM=>(by have h9:=Et w f hM.vl [] none 0 ww ba bc dC oM ⟨Nat.le_refl _,.inl rfl⟩ hM.f0;rw[OQ] at h9;exact h9)) (λ_=>trivial) ?_);rintro⟨⟩ -;exact Aa 6 [] (λ_=>AL (C3 rfl rfl) (λw f hM=>⟨(),f,rfl,tQ,hM.exm,tQ⟩))
 |true =>
   refine Aa 3 [] (λ_=>Br (α:=Unit) (val:=λ_=>.int .i64 0) (q:=λ_=>True) (F':=λ_=>[]) rfl rfl (eC IJ rfl rfl) (λw f hM=>(by have h9:=Et w f hM.vl (fa h h.length) aa ac ww ba bc (by rw[HU (Nat.le_refl _)];omega) oM hM.f5 hM.f0;rw[HU (Nat.le_refl _),Z8,hfit,if_pos rfl] at h9;exact h9)) (λ_=>trivial) ?_);rintro⟨⟩ -;refine Aa 5 [] (λ_=>Br rfl rfl (eC eX rfl rfl) (λw f hM=>Nb w f hM.vl hM.f1 hM.f2) (λ_=>trivial) ?_);rintro⟨⟩ -;refine Aa 4 [] (λ_=>D6 rfl rfl (λw f hM=>Up eY rfl rfl)<|Aa 12 [] (λ_=>Br (α:=Unit) (val:=λ_=>.int .i64 0) (q:=λ_=>True) (F':=λ_=>[]) rfl rfl (eC IJ rfl rfl) (λw f hM=>(by have h9:=Et w f hM.vl (fx h h.length) xa xc (fy ww ww.length) ya yc (by rw[JC (Nat.le_refl _)];omega) (by rw[JQ (Nat.le_refl _)];omega) hM.f6 hM.f7;rw[JC (Nat.le_refl _),JQ (Nat.le_refl _),XW,hfit,if_pos rfl] at h9;exact h9)) (λ_=>trivial) ?_));rintro⟨⟩ -;refine Aa 5 [] (λ_=>Br (α:=Unit) (val:=λ_=>.int .i64 0) (q:=λ_=>True) (F':=λ_=>[]) rfl rfl (eC IJ rfl rfl) (λw f hM=>(by have h9:=Et w f hM.vl (fa h h.length) aa ac [] none 0 (by rw[HU (Nat.le_refl _)];omega) dC hM.f5 ⟨Nat.le_refl _,.inl rfl⟩;rw[HU (Nat.le_refl _),OK] at h9;exact h9)) (λ_=>trivial) ?_);rintro⟨⟩ -;refine Aa 4 [] (λ_=>Br (α:=Unit) (val:=λ_=>.int .i64 0) (q:=λ_=>True) (F':=λ_=>[]) rfl rfl (eC IJ rfl rfl) (λw f hM=>(by have h9:=Et w f hM.vl [] none 0 ww ba bc dC oM ⟨Nat.le_refl _,.inl rfl⟩ hM.f0;rw[OQ] at h9;exact h9)) (λ_=>trivial) ?_);rintro⟨⟩ -;exact Aa 6 [] (λ_=>AL (C3 rfl rfl) (λw f hM=>⟨(),f,rfl,tQ,hM.exm,tQ⟩))
end Go.Proofs.YtelmolopaolbcaaGreatDoor
namespace Go.Proofs.YtelmolopaolbcaaGreatDoor.SFits
open Go.SW Go.SP Go.RowKit Go.Lib Go.ChangeShapes Go.WideShapes Go.ChangeAt Go.ChangeMaps
theorem YK:laidOutB Tryz.prog=true:=kR
set_option maxRecDepth 100000 in
theorem ZD(H:Type)(enc:TypeId×Value→H)(W:World)(base:Nat)(args:Array Value)(ds gs:List (DataW H))(before:List MemPlace)
   (hval:∀(j:Nat) t v,Tryz.f4.params[j]?=some t→args[j]?=some v→Value.okWide Tryz.prog W .any base t v)
   (hW:DataW.Whole enc Tryz.prog Tryz.f4.params.toList Rows.schemaFitsSpec.vars false W args.toList ds gs before) (hL:laidMetH Tryz.prog Rows.schemaFitsRow.laid W) (hS:W.ShapedOpen Tryz.prog) :
   Calls Tryz.prog 4 args W λe W'=>∃v,e=.returned v∧Rows.schemaFitsSpec.post enc Tryz.prog Tryz.f4 false true false false W args v W':=by
 have hW':=hW;obtain⟨p,q,hA0,hV,rfl,hfz,hnd⟩:=hW;have hA:DataW.TrodAll enc Tryz.prog W 0 (λ_=>true) true Tryz.f4.params.toList args.toList ds p:=hA0;rw[Tryz.params4] at hA hval;obtain⟨v0,vs0,d0,ds0,p0,q0,hargs0,rfl,rfl,h0,r0⟩:=trodAll_cons hA;obtain⟨v1,vs1,d1,ds1,p1,q1,hargs1,rfl,rfl,h1,r1⟩:=trodAll_cons r0;obtain⟨rfl,rfl,rfl⟩:=trodAll_nil r1
 obtain rfl:args=#[v0,v1]:=by
   obtain⟨l⟩:=args;exact congrArg Array.mk (hargs0.trans (congrArg _ (hargs1)))
 obtain⟨rfl,rfl⟩:=trodVars_none hV;obtain⟨x0,a0,c0,rfl,-,hI0⟩:=NI Tryz.underlying36 kR kR (hval 0 36 v0 rfl rfl) h0;obtain⟨x1,a1,c1,rfl,-,hI1⟩:=NI Tryz.underlying36 kR kR (hval 1 36 v1 rfl rfl) h1;clear hA0;simp only[List.append_nil] at hW';refine Calls.mono (YV (LD W (WL W) (Tq W) (fW hL hS).1 (fW hL hS).2 x0 a0 c0 hI0.1 hI0 x1 a1 c1 hI1.1 hI1)) ?_;rintro e W' ⟨v,rfl,rfl,hb⟩;exact⟨_,rfl,_,_,_,[],_,[],hW',trodAll_cons_mk (shut_bool Tryz.underlying4 _) trodAll_mk0,trodAll_cons_mk (N2 YK kR kR h0 _ hb) (trodAll_cons_mk (N2 YK kR kR h1 _ hb) trodAll_mk0),rfl,hb.frame _,λh=>by cases h⟩
noncomputable def lw(os:Os):World:=World.laidAll Tryz.prog os Rows.schemaFitsRow.laid
theorem Yw(os:Os):laidMetH Tryz.prog Rows.schemaFitsRow.laid ((lw os).forCall (λ_ _=>0) ⟨#[],#[Value.slice none 0 0,Value.slice none 0 0],[]⟩).memory:=by
 rw[MakeChecks.laidMetH_plain _ _ _ (by kernel_rfl)];exact laidMet_laidAll _ kR kR
theorem reads(os:Os){H:Type}(enc:TypeId×Value→H):∃places,DataW.whole enc Tryz.prog ((lw os).forCall (λ_ _=>0) ⟨#[],#[Value.slice none 0 0,Value.slice none 0 0],[]⟩).memory Tryz.f4.params.toList Rows.schemaFitsSpec.vars false (#[Value.slice none 0 0,Value.slice none 0 0]:Array Value).toList 8=some ([.nil,.nil],[],places) :=
 ⟨[],kR⟩
set_option maxRecDepth 100000 in
theorem lifted(os:Os)(started:os.Started)(H:Type)(enc:TypeId×Value→H)(F:Stop.Interp) :
   ReturnsInHanded {} Tryz.checked os 4 .any ((OpenSpec.ofChange Rows.schemaFitsSpec).preRow enc Tryz.prog Tryz.f4 Rows.schemaFitsRow.domain false Rows.schemaFitsRow.laid) (((OpenSpec.ofChange Rows.schemaFitsSpec).at F).post enc Tryz.prog Tryz.f4 false true false false):=by
 obtain⟨places,hx⟩:=reads os enc
 refine returnsInHanded_of_row (C:=Tryz.checked) (s:=OpenSpec.ofChange Rows.schemaFitsSpec) own started kR Tryz.func4
   ⟨lw os,λ_ _=>0,⟨#[],#[Value.slice none 0 0,Value.slice none 0 0],[]⟩,World.laidAll_os _ _ _,World.shaped_of_ZipB kR kR,rfl,(Input.okWide_of_okWideB kR).2,
     OpenSpec.preRow_of_cond 8 hx kR (λk hk=>by cases hk) kR (Yw os),by simp[Assume.holds]⟩ ?_
 intro W base args ds gs before hval hW _ _ _ hL hS _;exact ZD H enc W base args ds gs before hval hW hL hS
abbrev jc:=Rows.schemaFitsRow
abbrev js:=(OpenSpec.ofChange Rows.schemaFitsSpec).bare
theorem jT{a b:Bool}(h:a=true)(k:b=true):(a&&b)=true:=by rw[h,k];rfl
theorem jL{a b:Bool}(h:(a&&b)=true):a=true:=((Bool.and_eq_true a b).mp h).1
theorem jR{a b:Bool}(h:(a&&b)=true):b=true:=((Bool.and_eq_true a b).mp h).2
theorem j0:((jc.wf (OpenSpec.ofChange js))&&(laidOutB Tryz.pinned.checked.prog)&&(mapsRowed Tryz.pinned.checked.prog)&&(Tryz.f4.params.all (Tryz.pinned.checked.prog.readableRec ·))&&(namedTie Tryz.pinned.checked.prog jc.named js.vars)&&((jc.stops==[]))&&((Tryz.pinned.checked.prog.stops==[]))&&((jc.knobs==[]))&&((Tryz.pinned.checked.prog.stopKnobs==[])))=true:=kR
theorem j1:(((jc.inPlace==Tryz.pinned.checked.prog.inPlace 4))&&((jc.unfollowed==Tryz.pinned.checked.prog.unfollowed 4))&&((jc.recurses==Tryz.pinned.checked.prog.recurses 4))&&((jc.named==Tryz.pinned.checked.prog.varsNamed 4)))=true:=kR
theorem j2:(((jc.maps==(Tryz.f4.params.toList++js.plain.varTypes Tryz.pinned.checked.prog).any (Tryz.pinned.checked.prog.mapsRec ·)))&&((jc.ifaces==(Tryz.f4.params.toList++js.plain.varTypes Tryz.pinned.checked.prog).any (Tryz.pinned.checked.prog.ifacesRec ·)))&&((jc.mapsOut==Tryz.pinned.checked.prog.mapsAmong Tryz.f4.resultTypes.toList))&&((jc.loops==(Tryz.f4.params.toList++js.plain.varTypes Tryz.pinned.checked.prog).any (Tryz.pinned.checked.prog.loopsFrom ·)))&&((jc.wideKeys==(Tryz.f4.params.toList++js.plain.varTypes Tryz.pinned.checked.prog++Tryz.f4.resultTypes.toList).any (Tryz.pinned.checked.prog.wideKeysFrom ·)))&&(js.vars.all (Tryz.pinned.checked.prog.varReadable ·)))=true:=kR
theorem j3:((Tryz.f4.resultTypes.all (λt=>Tryz.pinned.checked.prog.readableRec t&&decide (t < Tryz.pinned.checked.prog.types.size)))&&((jc.ifacesOut==Tryz.f4.resultTypes.toList.any (Tryz.pinned.checked.prog.ifacesRec ·)))&&((jc.loopsOut==Tryz.f4.resultTypes.toList.any (Tryz.pinned.checked.prog.loopsFrom ·)))&&((jc.plainKeys==Tryz.pinned.checked.prog.plainKeys))&&(jc.shortTexts.isNone)&&(Tryz.pinned.checked.prog.stopsHeard)&&(Tryz.pinned.checked.prog.mayEnter)&&((jc.lifted==Tryz.pinned.checked.prog.liftsFinal))&&((Tryz.pinned.checked.prog.make==some jc.make))&&((jc.kinds==(if jc.domain.isEmpty then [] else Tryz.f4.params.toList.map λt=>match Tryz.pinned.checked.prog.underlying t with|some (.int k)=>some k|_=>none)))&&((jc.pinned==jc.pinnedBy))&&((jc.veiled==(Tryz.f4.params.toList++js.plain.varTypes Tryz.pinned.checked.prog++Tryz.f4.resultTypes.toList).any (Tryz.pinned.checked.prog.veiledRec ·)))&&(jc.veiledFits Tryz.pinned.checked.prog Tryz.f4.params.toList (Tryz.f4.params.toList++js.plain.varTypes Tryz.pinned.checked.prog++Tryz.f4.resultTypes.toList)))=true:=kR
set_option maxRecDepth 100000 in
theorem uL:joinedFacts Tryz.pinned.checked.prog 4 Tryz.f4 (OpenSpec.ofChange Rows.schemaFitsSpec).bare Rows.schemaFitsRow=true:=(jT (jT (jT (jT (jT (jT (jT (jT (jT (jT (jT (jT (jT (jT (jT (jT (jT (jT (jT (jT (jT (jT (jT (jT (jT (jT (jT (jT (jT (jT (jT (jL (jL (jL (jL (jL (jL (jL (jL j0)))))))) (jR (jL (jL (jL (jL (jL (jL (jL j0))))))))) (jR (jL (jL (jL (jL (jL (jL j0)))))))) (jR (jL (jL (jL (jL (jL j0))))))) (jR (jL (jL (jL (jL j0)))))) (jR (jL (jL (jL j0))))) (jR (jL (jL j0)))) (jR (jL j0))) (jR j0)) (jL (jL (jL j1)))) (jR (jL (jL j1)))) (jR (jL j1))) (jR j1)) (jL (jL (jL (jL (jL j2)))))) (jR (jL (jL (jL (jL j2)))))) (jR (jL (jL (jL j2))))) (jR (jL (jL j2)))) (jR (jL j2))) (jR j2)) (jL (jL (jL (jL (jL (jL (jL (jL (jL (jL (jL (jL j3))))))))))))) (jR (jL (jL (jL (jL (jL (jL (jL (jL (jL (jL (jL j3))))))))))))) (jR (jL (jL (jL (jL (jL (jL (jL (jL (jL (jL j3)))))))))))) (jR (jL (jL (jL (jL (jL (jL (jL (jL (jL j3))))))))))) (jR (jL (jL (jL (jL (jL (jL (jL (jL j3)))))))))) (jR (jL (jL (jL (jL (jL (jL (jL j3))))))))) (jR (jL (jL (jL (jL (jL (jL j3)))))))) (jR (jL (jL (jL (jL (jL j3))))))) (jR (jL (jL (jL (jL j3)))))) (jR (jL (jL (jL j3))))) (jR (jL (jL j3)))) (jR (jL j3))) (jR j3))
theorem said:Rows.SchemaFitsSaid :=
 OpenClaim.holds_of_cond 4 Tryz.f4 rfl rfl rfl rfl rfl rfl rfl ⟨rfl,rfl,rfl,rfl,rfl⟩ rfl rfl rfl rfl rfl kR Tryz.func4 uL
   (of_decide_eq_true kR) (by unfold Func.isWrapper;first|(rw[if_pos (by decide +kernel)];kernel_rfl)|(rw[if_neg (by decide +kernel)];exact⟨rfl,rfl⟩))
   (λos started H enc _ F=>by rw[OpenClaim.pre_eq_preRow];exact lifted os started H enc F)
theorem plain(f:FuncId)(fn:Func)(hf:Tryz.pinned.checked.prog.funcNamed Rows.schemaFitsRow.func=some f)(hfn:Tryz.pinned.checked.prog.funcs[f]?=some fn) :
   true=Tryz.pinned.checked.prog.looks []∧∀(j:Nat) t,fn.params[j]?=some t→Tryz.pinned.checked.prog.wantsStandIn t=false:=by
 obtain rfl:f=4:=Option.some.inj ((show Tryz.prog.funcNamed Rows.schemaFitsRow.func=some 4 by kernel_rfl).symm.trans hf) |>.symm;obtain rfl:fn=Tryz.f4:=(Option.some.inj (Tryz.func4.symm.trans hfn)).symm;refine⟨kR,λj t ht=>?_⟩;rw[Tryz.params4] at ht;have hm:=Array.mem_of_getElem? ht;have ht2:t=36∨t=36:=by simpa using hm
 rcases ht2 with rfl|rfl
 · exact (show Tryz.prog.wantsStandIn 36=false by kernel_rfl)
 · exact (show Tryz.prog.wantsStandIn 36=false by kernel_rfl)
end Go.Proofs.YtelmolopaolbcaaGreatDoor.SFits
namespace Go.Proofs.YtelmolopaolbcaaGreatDoor
theorem schemaFits_card:Rows.SchemaFitsCardSaid :=
 Claim7.holds_tied_plain_at .later [] _ _ _ _ SFits.said (λ_ h=>by cases h) kR (λ_ h=>by cases h) schemaFits_row_tie rfl ⟨rfl,rfl⟩ kR rfl SFits.plain kR
end Go.Proofs.YtelmolopaolbcaaGreatDoor
