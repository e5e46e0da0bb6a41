/- What it rests on, part 4. -/
import Derived.Test.YtegedalegfadgaaGreatDoorGc3
set_option linter.unusedVariables false
set_option linter.unusedSimpArgs false
namespace Go.Proofs.YtegedalegfadgaaGreatDoor
open Go.SW Go.SP Go.RowKit Go.Proofs.Tryz
def oK:Eh:=⟨[(80,0,0),(80,1,1)],[(38,80,5),(83,44,1)],[],[],[(3,false,1),(26,true,2),(80,true,5),(4,false,1)],[(42,[.int .i64 0,.int .i64 0])],[(42,[(0,2)])],[]⟩
theorem BF:oK.Ok prog:=⟨(And.intro YV (And.intro T4 tQ)),(And.intro H0 (And.intro Ld tQ)),tQ,tQ,(And.intro Qs (And.intro Hp (And.intro Hw (And.intro gS tQ)))),(And.intro jY tQ),(And.intro kT tQ),tQ⟩
theorem Ve(w:World)(ta:Option Addr)(tn tc:Nat)(toks:List AM)(hT:Co w 80 5 ta tc toks.length (F8 toks))(htn:tn=toks.length)(hlen:toks.length≤100000) :
  BS prog 11 #[.slice ta tn tc] w (λv w'=>∃fo a c,AR toks [] .nil=.ok fo∧v=.slice a fo.len c∧EN (λb=>w.heap.size≤b) w' a fo.len c fo∧AY w w') (λc w'=>∃e,AR toks [] .nil=.error e∧c=Rc 42 e∧AY w w'):=by
 subst htn;have hX:=AY.refl w;refine IY func11 rfl rfl rfl<|gP [] BF 7 [] (Ar _) (λ_=>Cn rfl rfl Ld rV rfl rfl rfl rfl rfl λb1 w1 hb1 hE1 hs1 hz1=>?_);replace hX:=hX.trans hE1;refine gL [.sq _] BF 17 [] (Ar _) (λ_=>?_);refine Em (λk σ ds w'=>∃(i:Nat)(pre rest:List AM)(st:List (AM×Fo))(cur:Fo)(u:Nat→Nat)(oa:Option Addr)(oc sb sc:Nat)(a:Option Addr)(c:Nat)(vs:List Value),k=rest.length∧ds=[]∧σ=(E5 3 (.slice (some ⟨sb,0,none⟩) (st.length+1) sc) 4 (.slice oa st.length oc) 10 (.slice ta toks.length tc) 11 (.int .i64 (toks.length:Int)) 12 (.int .i64 (i:Int)))∧toks=pre++rest∧pre.length=i∧AR toks [] .nil=AR rest st cur∧st.length≤200∧cur.len≤i∧(∀z∈st,z.2.len≤i)∧SV 82 80 44 u w w' st st oa oc (some ⟨sb,0,none⟩) sc (.slice a cur.len c) a c cur vs none 0 0 .nil∧AY w w') toks.length (E5 3 (.slice (some ⟨b1,0,none⟩) 1 1) 4 (.slice none 0 0) 10 (.slice ta toks.length tc) 11 (.int .i64 (toks.length:Int)) 12 (.int .i64 ((0:Nat):Int))) lE ⟨0,[],toks,[],.nil,λ_=>2,none,0,b1,1,none,0,[],rfl,rfl,rfl,rfl,rfl,rfl,by simp,by simp[Fo.len],(λz hz=>by cases hz),SV.start hb1 oM,hX⟩ ?_;rintro _ _ _ wl ⟨i,pre,rest,st,cur,u,oa,oc,sb,sc,a,c,vs,rfl,rfl,rfl,htk,hpi,hm,h200,hcl,hsl,hS,hX⟩;have szl:=hX.size;have hil:i+rest.length=toks.length:=by rw[htk,List.length_append,hpi]
 have hslt:sb<wl.heap.size:=hS.slt sb rfl;have hsge:w.heap.size≤sb:=(hS.sla sb rfl).1;have htlt:=hS.tlt;have holt:=hS.olt;have hson:=hS.o.n_le;have hssn:=hS.s.n_le;have hA1:=AY.refl wl;refine gP [] BF 6 [] (Ar _) (λ_=>sP 13 rfl (λh1=>?_) (λh1=>?_));refine gP [.sq _] BF 7 [] (Ar _) (λ_=>?_);have hi2:i<toks.length:=by simpa using h1
 rcases rest with _|⟨tk,rest⟩
 · simp at hil;omega
 simp only[List.length_cons] at hil;obtain⟨bt,lt,lt2,hta,hbt,hdt⟩:=nC (htk▸hT) hpi
 cases hta
 have hbtl:=hbt.lt;refine Aa rfl (KN (i:=i) rfl rfl H0 hi2)<|Aa rfl (Mq 0 rfl Hw (hbt.ext hX) hdt oM rfl)<|CT rfl Gb λb2 w2 hb2 hE2 hs2 hz2=>?_;replace hX:=hX.trans hE2;replace hA1:=hA1.trans hE2;refine A4 rfl rfl rfl Hw rfl hb2 rfl rfl λw3 hb3 hC1=>?_;replace hX:=hX.chg hC1 oM;replace hA1:=hA1.chg hC1 oM;have sz1:=hC1.size;refine gL [.sq _,.bk _,.sq _] BF 23 [0,0] (kB hb3 (Ar _)) (And.intro ⟨oM,oM⟩<|y2<|λ_=>sP 32 rfl (λh2=>?_) (λh2=>?_));refine gP [.bk _,.bk _,.sq _] BF 9 [] (Ar _) (λ_=>sP 36 rfl (λh3=>?_) (λh3=>?_));exact gP [.sq _,.bk _,.bk _,.sq _] BF 5 [0,1] (kB hb3 (Ar _)) (y2<|λ_=>Aa rfl (BZ rfl aT)<|Cr (BN rfl) (And.intro rfl<|⟨(tk.ln,tk.co),hm.trans (Sc h2 (by have:=h3;simp at this;omega)),rfl,hX⟩));refine gP [.sq _,.bk _,.bk _,.sq _] BF 7 [0,0] (kB hb3 (Ar _)) (y2<|λ_=>Cn rfl rfl H0 Gb rfl rfl rfl rfl rfl λb3 w4 hb4 hE3 hs3 hz3=>?_);replace hb3:=hb3.ext hE3;replace hX:=hX.trans hE3;replace hA1:=hA1.trans hE3;have hS0:=(hS.ext hA1);refine Bg rfl J2 rfl rfl rfl rfl hS0.o hb4 rfl rfl oM oM λoa2 oc2 w5 hr1 hG1=>?_;obtain⟨u2,hS1⟩:=hS0.pushTok tk cur hr1 hG1 oM;replace hX:=hX.grow hG1 (λb hb=>(hS0.ol b hb).1);have sz2:=hG1.size;have hA2:=AY.refl w5;refine gL [.sq _,.bk _,.bk _,.sq _] BF 5 [] (Ar _) (λ_=>Cn rfl rfl Ld rV rfl rfl rfl rfl rfl λb4 w6 hb5 hE4 hs4 hz4=>?_);replace hX:=hX.trans hE4;replace hA2:=hA2.trans hE4;have hS0:=(hS1.ext hA2);refine Bg rfl uU rfl rfl rfl rfl hS0.s hb5 rfl rfl oM oM λsa2 sc2 w7 hr2 hG2=>?_;obtain⟨u3,hS2⟩:=hS0.pushLev rfl tk hr2 hG2 oM;replace hX:=hX.grow hG2 (λb hb=>(hS0.sla b hb).1);have sz3:=hG2.size;have hA3:=AY.refl w7;refine gL [.bk _,.bk _,.sq _] BF 9 [] (Ar _) (And.intro ⟨oM,oM⟩<|λ_=>?_);obtain⟨sb2,_,hes2,-⟩:=(hS2.ext hA3).sblk
 cases hes2
 have hne2:st.length≠200:=by have:=h3;simp at this;omega
 refine HN rest.length (E5 3 (.slice (some ⟨sb2,0,none⟩) (st.length+1+1) sc2) 4 (.slice oa2 (st.length+1) oc2) 10 (.slice (some ⟨bt,0,none⟩) toks.length tc) 11 (.int .i64 (toks.length:Int)) 12 (.int .i64 ((i+1:Nat):Int))) (by simp) lE ⟨i+1,pre++[tk],rest,(tk,cur)::st,.nil,_,oa2,oc2,sb2,sc2,none,0,_,rfl,rfl,rfl,by rw[htk];simp,by simp[hpi],hm.trans (Tn h2 hne2),by simp only[List.length_cons];omega,by simp[Fo.len],WK tk hsl hcl,(hS2.ext hA3),hX⟩;refine gP [.bk _,.bk _,.sq _] BF 7 [] (Ar _) (λ_=>sP 48 rfl (λh4=>?_) (λh4=>?_));refine gP [.bk _,.bk _,.sq _] BF 8 [] (Ar _) (λ_=>sP 51 rfl (λh5=>?_) (λh5=>?_));refine gP [.sq _,.bk _,.bk _,.sq _] BF 5 [0,1] (kB hb3 (Ar _)) (y2<|λ_=>Aa rfl (BZ rfl aT)<|Cr (BN rfl) (And.intro rfl ?_));rcases st with _|⟨o,s⟩
 · exact⟨(tk.ln,tk.co),hm.trans (Uy h2 h4),rfl,hX⟩
 · have h2:=h5;simp at h2 <;> omega
 refine gP [.sq _,.bk _,.bk _,.sq _] BF 4 [] (Ar _) (λ_=>?_);rcases st with _|⟨⟨o,q⟩,s⟩
 · simp at h5
 rcases vs with _|⟨y,vs⟩
 · exact hS.lv.elim
 obtain⟨_,ls,hes,hsb,hcell,hsl2,hsw,hsu⟩:=(hS.ext hA1).sblk
 cases hes
 obtain⟨ob,lo,lo2,hoa,hob,hod⟩:=(hS.ext hA1).oblk
 cases hoa
 have hobl:ob<wl.heap.size:=holt ob rfl;have hr3:=hsb;have hr4:=(hbt.ext hX);have hr5:=hb3;have hr6:=hob;refine Ei mixed (A8 w3 [sb,bt,b2,ob]) [(true,0),(true,1),(true,2),(true,3),(true,4),(true,5),(true,6),(true,7),(true,8),(true,9),(false,10),(false,11)] kR kR rfl rfl λw8 hE5 hz5=>?_;have hKp:A8 w3 [sb,bt,b2,ob] w8:=A8.cons hr3 hE5 (A8.cons hr4 hE5 (A8.cons hr5 hE5 (A8.cons hr6 hE5 (A8.nil _ _))));refine⟨hKp,?_⟩;replace hb3:=hb3.ext hE5;replace hob:=hob.ext hE5;replace hsb:=hsb.ext hE5;replace hX:=hX.trans hE5;replace hA1:=hA1.trans hE5;refine A3 rfl (λ_ hS=>A1 rfl)<|A3 rfl (λ_ hS=>A1 rfl)<|A3 rfl (λ_ hS=>Hx rfl rfl ⟨oM,oM⟩)<|A3 rfl (λ_ hS=>EV s.length rfl rfl (by simp <;> omega) H0 (by simp))<|A3 rfl (λ_ hS=>Mq 0 rfl Hw (hr6.keep hS (.tail _ (.tail _ (.tail _ (.head _))))) hod oM rfl)<|A3 rfl (λ_ hS=>A1 rfl)<|A3 rfl (λ_ hS=>A1 rfl)<|A3 rfl (λ_ hS=>EV (s.length+1) rfl rfl (by simp) Ld (by simp))<|A3 rfl (λ_ hS=>Al rfl JN (hr3.keep hS (.head _)) (by simpa using hcell))<|A3 rfl (λ_ hS=>DV rfl qT QZ rfl) ?_;refine Fa<|CT rfl QZ λb5 w9 hb6 hE6 hs5 hz6=>?_;replace hb3:=hb3.ext hE6;replace hob:=hob.ext hE6;replace hsb:=hsb.ext hE6;replace hX:=hX.trans hE6;replace hA1:=hA1.trans hE6;replace hKp:=hKp.ext hE6;refine Ab (H5 hKp<|Fa<|A4 rfl rfl rfl NO rfl hb6 rfl rfl λw10 hb7 hC2=>?_);replace hb3:=hb3.chg hC2 oM;replace hob:=hob.chg hC2 oM;replace hsb:=hsb.chg hC2 oM;replace hX:=hX.chg hC2 oM;replace hA1:=hA1.chg hC2 oM;replace hKp:=hKp.chg hC2 nM;have sz4:=hC2.size;refine Ab (H5 hKp<|Ex<|gQ [.sq _,.bk _,.bk _,.sq _] BF 2 [] (Ar _) (λ_=>?_));have hr7:=(hbt.ext hX);have hr8:=hb3;have hr9:=hb7;refine Ei mixed (A8 w10 [bt,b2,b5]) [(true,0),(true,1),(true,2),(true,3),(true,4),(true,5),(true,6),(true,7),(true,8)] kR kR rfl rfl λw11 hE7 hz7=>?_;have hKp:A8 w10 [bt,b2,b5] w11:=A8.cons hr7 hE7 (A8.cons hr8 hE7 (A8.cons hr9 hE7 (A8.nil _ _)));refine⟨hKp,?_⟩;replace hb3:=hb3.ext hE7;replace hb7:=hb7.ext hE7;replace hX:=hX.trans hE7;replace hA1:=hA1.trans hE7;refine A3 rfl (λ_ hS=>A1 rfl)<|A3 rfl (λ_ hS=>A1 rfl)<|A3 rfl (λ_ hS=>Hx rfl rfl ⟨oM,oM⟩)<|A3 rfl (λ_ hS=>Vz s.length rfl rfl (by simp <;> omega) H0 (by simp only[List.length_cons] at hson;omega))<|A3 rfl (λ_ hS=>A1 rfl)<|A3 rfl (λ_ hS=>A1 rfl)<|A3 rfl (λ_ hS=>Vz (s.length+1) rfl rfl (by simp) Ld (by simp only[List.length_cons] at hssn;omega))<|A3 rfl (λ_ hS=>Dq rfl)<|A3 rfl (λ_ hS=>Dq rfl)<|Ex ?_;refine gQ [.sq _,.bk _,.bk _,.sq _] BF 2 [] (Ar _) (λ_=>?_);obtain⟨u2,a2,c2,hy,hP⟩:=(hS.ext hA1).pop
 cases hy
 obtain⟨a9,c9,hy9,xs9,hrow9,-⟩:=hS.lv.1
 cases hy9
 have htlt9:∀b,rb a2=some b→b<wl.heap.size:=λb hb=>hrow9.lt hb;have hA4:=AY.refl w11;have hr10:=(hbt.ext hX);have hr11:=hb3;have hr12:=hb7;refine Ey mixed (A8 w11 [bt,b2,b5]) (.br 0 (.br 1 (.br 2 (.br 3 .fin .fin) .fin) (.br 2 (.br 1 (.br 3 .fin .fin) .fin) .fin)) .fin) kR kR kR λw12 hE8 hz8=>?_;have hKp:A8 w11 [bt,b2,b5] w12:=A8.cons hr10 hE8 (A8.cons hr11 hE8 (A8.cons hr12 hE8 (A8.nil _ _)));refine⟨hKp,?_⟩;replace hb3:=hb3.ext hE8;replace hb7:=hb7.ext hE8;replace hX:=hX.trans hE8;replace hA1:=hA1.trans hE8;replace hA4:=hA4.trans hE8;refine Am rfl ?_ Ae;refine CT rfl wS λb6 w13 hb8 hE9 hs6 hz9=>?_;replace hb3:=hb3.ext hE9;replace hb7:=hb7.ext hE9;replace hX:=hX.trans hE9;replace hA1:=hA1.trans hE9;replace hA4:=hA4.trans hE9;replace hKp:=hKp.ext hE9;refine Ab (An hKp<|Am rfl ?_ ?_);refine A4 rfl rfl rfl gS rfl hb8 rfl rfl λw14 hb9 hC3=>?_;replace hb3:=hb3.chg hC3 oM;replace hb7:=hb7.chg hC3 oM;replace hX:=hX.chg hC3 oM;replace hA1:=hA1.chg hC3 oM;replace hA4:=hA4.chg hC3 oM;replace hKp:=hKp.chg hC3 nM;have sz5:=hC3.size;refine Ab (An hKp<|Am rfl ?_ Ae);refine A4 rfl rfl rfl gS rfl hb9 rfl rfl λw15 hb10 hC4=>?_;replace hb3:=hb3.chg hC4 oM;replace hb7:=hb7.chg hC4 oM;replace hX:=hX.chg hC4 oM;replace hA1:=hA1.chg hC4 oM;replace hA4:=hA4.chg hC4 oM;replace hKp:=hKp.chg hC4 nM;have sz6:=hC4.size;refine Ab (An hKp<|Am rfl ?_ Ae);refine Aa rfl (Al rfl gS hb10 rfl)<|Ab (An hKp<|BD<|gQ [.sq _,.bk _,.bk _,.sq _] BF 2 [] (Ar _) (λ_=>?_));have hr13:=(hbt.ext hX);have hr14:=hb3;have hr15:=hb7;have hr16:=hb10;refine Ey mixed (A8 w15 [bt,b2,b5,b6]) (rd [0,1,2,3,4,5,6,8] (.br 7 (.br 9 (.br 10 (.rd 11 (.br 12 .fin .fin)) .fin) .fin) (.br 9 (.br 7 (.br 10 (.rd 11 (.br 12 .fin .fin)) .fin) .fin) .fin))) kR kR kR λw16 hE10 hz10=>?_;have hKp:A8 w15 [bt,b2,b5,b6] w16:=A8.cons hr13 hE10 (A8.cons hr14 hE10 (A8.cons hr15 hE10 (A8.cons hr16 hE10 (A8.nil _ _))));refine⟨hKp,?_⟩;replace hb3:=hb3.ext hE10;replace hb7:=hb7.ext hE10;replace hb10:=hb10.ext hE10;replace hX:=hX.trans hE10;replace hA1:=hA1.trans hE10;replace hA4:=hA4.trans hE10;refine Av rfl rfl (λ_ hS=>A1 rfl)<|Av rfl rfl (λ_ hS=>A1 rfl)<|Av rfl rfl (λ_ hS=>Hx rfl rfl ⟨oM,oM⟩)<|Av rfl rfl (λ_ hS=>A1 rfl)<|Av rfl rfl (λ_ hS=>A1 rfl)<|Av rfl rfl (λ_ hS=>Hx rfl rfl ⟨oM,oM⟩)<|Av rfl rfl (λ_ hS=>EV s.length rfl rfl (by simp <;> omega) Ld oM)<|Av rfl rfl (λ_ hS=>D0 rfl NO (hr15.keep hS (.tail _ (.tail _ (.head _)))) rfl)<|Am rfl ?_ ?_;obtain⟨_,ls,hes,hsb,hcell,hsl2,hsw,hsu⟩:=(hP.ext hA4).sblk
 cases hes
 refine Aa rfl (Al rfl JN hsb (by simpa using hcell))<|Ab (An hKp<|Am rfl ?_ Ae);refine Cn rfl rfl Lj QZ rfl rfl rfl rfl rfl λb7 w17 hb11 hE11 hs7 hz11=>?_;replace hb3:=hb3.ext hE11;replace hb7:=hb7.ext hE11;replace hb10:=hb10.ext hE11;replace hX:=hX.trans hE11;replace hA1:=hA1.trans hE11;replace hA4:=hA4.trans hE11;replace hKp:=hKp.ext hE11;refine Ab (An hKp<|Am rfl ?_ Ae);have hS0:=(hP.ext hA4);obtain⟨xs,hrow,hfc,hla⟩:=hS0.top;have hql:=hsl (o,q) (.head _);simp only at hql;refine Bg rfl X1 rfl rfl rfl rfl hrow hb11 rfl rfl oM oM λa3 c3 w18 hr17 hG3=>?_;obtain⟨u3,hS3⟩:=hS0.app hrow hfc hla o hS0.kid hr17 hG3 oM;obtain⟨lb,_,he3,-⟩:=hS3.tblk
 cases he3
 have hlo:lb<wl.heap.size∨lb=w17.heap.size:=by
  rcases hG3.own with h|h
  · exact .inl (htlt9 lb h.symm)
  · exact .inr (Option.some.inj h)
 have hlge:w17.heap.size≤w18.heap.size:=hG3.size;replace hX:=hX.grow hG3 (λb hb=>(hla b hb).1);have sz7:=hG3.size;replace hKp:=hKp.grow hG3 (by simp only[List.mem_cons,List.not_mem_nil,or_false];intro c hc e;have h1:=(hla c e.symm).1;have h2:=htlt9 c e.symm;omega);have hA5:=AY.refl w18;refine Ab (An hKp<|Av rfl rfl (λ_ hS=>EV s.length rfl rfl (by simp <;> omega) Ld oM)<|Am rfl ?_ Ae);have hS0:=(hS3.ext hA5);obtain⟨_,ls,hes,hsb,hcell,hsl2,hsw,hsu⟩:=hS0.sblk
 cases hes
 refine Cl rfl rfl rfl JN rfl hsb rfl (by simp <;> omega) λw19 hb12 hC5=>?_;have hS4:=hS0.cell' rfl hsb hb12 hC5;replace hX:=hX.chg hC5 hsw;have sz8:=hC5.size;replace hKp:=hKp.chg hC5 nM;have hA6:=AY.refl w19;refine Ab (An hKp<|BD<|gQ [.bk _,.bk _,.sq _] BF 7 [] (Ar _) (And.intro ⟨oM,oM⟩<|λ_=>HN rest.length (E5 3 (.slice (some ⟨sb,0,none⟩) (s.length+1) sc) 4 (.slice (some ⟨ob,0,none⟩) s.length oc) 10 (.slice (some ⟨bt,0,none⟩) toks.length tc) 11 (.int .i64 (toks.length:Int)) 12 (.int .i64 ((i+1:Nat):Int))) (by simp) lE ⟨i+1,pre++[tk],rest,s,q.snoc o cur,_,_,oc,sb,sc,_,_,_,rfl,rfl,rfl,by rw[htk];simp,by simp[hpi],hm.trans (GQ h2 h4),by simp only[List.length_cons] at h200;omega,by rw[Fo.len_snoc];have:=hsl (o,q) (.head _);simp only at this;omega,LB hsl,(by rw[Fo.len_snoc];exact (hS4.ext hA6).knil),hX⟩));refine Am rfl ?_ ?_;refine Cn rfl rfl Lj QZ rfl rfl rfl rfl rfl λb8 w20 hb13 hE12 hs8 hz12=>?_;replace hb3:=hb3.ext hE12;replace hb7:=hb7.ext hE12;replace hb10:=hb10.ext hE12;replace hX:=hX.trans hE12;replace hA1:=hA1.trans hE12;replace hA4:=hA4.trans hE12;replace hKp:=hKp.ext hE12;refine Ab (An hKp<|Am rfl ?_ Ae);obtain⟨_,ls,hes,hsb,hcell,hsl2,hsw,hsu⟩:=(hP.ext hA4).sblk
 cases hes
 refine Aa rfl (Al rfl JN hsb (by simpa using hcell))<|Ab (An hKp<|Am rfl ?_ Ae);have hS0:=(hP.ext hA4);obtain⟨xs,hrow,hfc,hla⟩:=hS0.top;have hql:=hsl (o,q) (.head _);simp only at hql;refine Bg rfl X1 rfl rfl rfl rfl hrow hb13 rfl rfl oM oM λa3 c3 w21 hr18 hG4=>?_;obtain⟨u3,hS5⟩:=hS0.app hrow hfc hla o hS0.kid hr18 hG4 oM;obtain⟨lb,_,he3,-⟩:=hS5.tblk
 cases he3
 have hlo:lb<wl.heap.size∨lb=w20.heap.size:=by
  rcases hG4.own with h|h
  · exact .inl (htlt9 lb h.symm)
  · exact .inr (Option.some.inj h)
 have hlge:w20.heap.size≤w21.heap.size:=hG4.size;replace hX:=hX.grow hG4 (λb hb=>(hla b hb).1);have sz9:=hG4.size;replace hKp:=hKp.grow hG4 (by simp only[List.mem_cons,List.not_mem_nil,or_false];intro c hc e;have h1:=(hla c e.symm).1;have h2:=htlt9 c e.symm;omega);have hA7:=AY.refl w21;refine Ab (An hKp<|Av rfl rfl (λ_ hS=>EV s.length rfl rfl (by simp <;> omega) Ld oM)<|Am rfl ?_ Ae);have hS0:=(hS5.ext hA7);obtain⟨_,ls,hes,hsb,hcell,hsl2,hsw,hsu⟩:=hS0.sblk
 cases hes
 refine Cl rfl rfl rfl JN rfl hsb rfl (by simp <;> omega) λw22 hb14 hC6=>?_;have hS6:=hS0.cell' rfl hsb hb14 hC6;replace hX:=hX.chg hC6 hsw;have sz10:=hC6.size;replace hKp:=hKp.chg hC6 nM;have hA8:=AY.refl w22;refine Ab (An hKp<|BD<|gQ [.bk _,.bk _,.sq _] BF 7 [] (Ar _) (And.intro ⟨oM,oM⟩<|λ_=>HN rest.length (E5 3 (.slice (some ⟨sb,0,none⟩) (s.length+1) sc) 4 (.slice (some ⟨ob,0,none⟩) s.length oc) 10 (.slice (some ⟨bt,0,none⟩) toks.length tc) 11 (.int .i64 (toks.length:Int)) 12 (.int .i64 ((i+1:Nat):Int))) (by simp) lE ⟨i+1,pre++[tk],rest,s,q.snoc o cur,_,_,oc,sb,sc,_,_,_,rfl,rfl,rfl,by rw[htk];simp,by simp[hpi],hm.trans (GQ h2 h4),by simp only[List.length_cons] at h200;omega,by rw[Fo.len_snoc];have:=hsl (o,q) (.head _);simp only at this;omega,LB hsl,(by rw[Fo.len_snoc];exact (hS6.ext hA8).knil),hX⟩));exact Ae;refine Am rfl ?_ ?_;refine A4 rfl rfl rfl gS rfl hb8 rfl rfl λw23 hb15 hC7=>?_;replace hb3:=hb3.chg hC7 oM;replace hb7:=hb7.chg hC7 oM;replace hX:=hX.chg hC7 oM;replace hA1:=hA1.chg hC7 oM;replace hA4:=hA4.chg hC7 oM;replace hKp:=hKp.chg hC7 nM;have sz11:=hC7.size;refine Ab (An hKp<|Am rfl ?_ Ae);refine A4 rfl rfl rfl gS rfl hb15 rfl rfl λw24 hb16 hC8=>?_;replace hb3:=hb3.chg hC8 oM;replace hb7:=hb7.chg hC8 oM;replace hX:=hX.chg hC8 oM;replace hA1:=hA1.chg hC8 oM;replace hA4:=hA4.chg hC8 oM;replace hKp:=hKp.chg hC8 nM;have sz12:=hC8.size;refine Ab (An hKp<|Am rfl ?_ Ae);refine Aa rfl (Al rfl gS hb16 rfl)<|Ab (An hKp<|BD<|gQ [.sq _,.bk _,.bk _,.sq _] BF 3 [] (Ar _) (λ_=>?_));have hr19:=(hbt.ext hX);have hr20:=hb3;have hr21:=hb7;have hr22:=hb16;refine Ey mixed (A8 w24 [bt,b2,b5,b6]) (rd [0,1,2,3,4,5,6,8] (.br 7 (.rd 9 (.br 10 (.br 11 (.rd 12 (.br 13 .fin .fin)) .fin) .fin)) (.br 10 (.br 7 (.rd 9 (.br 11 (.rd 12 (.br 13 .fin .fin)) .fin)) .fin) .fin))) kR kR kR λw25 hE13 hz13=>?_;have hKp:A8 w24 [bt,b2,b5,b6] w25:=A8.cons hr19 hE13 (A8.cons hr20 hE13 (A8.cons hr21 hE13 (A8.cons hr22 hE13 (A8.nil _ _))));refine⟨hKp,?_⟩;replace hb3:=hb3.ext hE13;replace hb7:=hb7.ext hE13;replace hb16:=hb16.ext hE13;replace hX:=hX.trans hE13;replace hA1:=hA1.trans hE13;replace hA4:=hA4.trans hE13;refine Av rfl rfl (λ_ hS=>A1 rfl)<|Av rfl rfl (λ_ hS=>A1 rfl)<|Av rfl rfl (λ_ hS=>Hx rfl rfl ⟨oM,oM⟩)<|Av rfl rfl (λ_ hS=>A1 rfl)<|Av rfl rfl (λ_ hS=>A1 rfl)<|Av rfl rfl (λ_ hS=>Hx rfl rfl ⟨oM,oM⟩)<|Av rfl rfl (λ_ hS=>EV s.length rfl rfl (by simp <;> omega) Ld oM)<|Av rfl rfl (λ_ hS=>D0 rfl NO (hr21.keep hS (.tail _ (.tail _ (.head _)))) rfl)<|Am rfl ?_ ?_;obtain⟨_,ls,hes,hsb,hcell,hsl2,hsw,hsu⟩:=(hP.ext hA4).sblk
 cases hes
 refine Aa rfl (Al rfl JN hsb (by simpa using hcell))<|Ab (An hKp<|Av rfl rfl (λ_ hS=>Me rfl Lj)<|Am rfl ?_ Ae);refine Cn rfl rfl Lj QZ rfl rfl rfl rfl rfl λb9 w26 hb17 hE14 hs9 hz14=>?_;replace hb3:=hb3.ext hE14;replace hb7:=hb7.ext hE14;replace hb16:=hb16.ext hE14;replace hX:=hX.trans hE14;replace hA1:=hA1.trans hE14;replace hA4:=hA4.trans hE14;replace hKp:=hKp.ext hE14;refine Ab (An hKp<|Am rfl ?_ Ae);have hS0:=(hP.ext hA4);obtain⟨xs,hrow,hfc,hla⟩:=hS0.top;have hql:=hsl (o,q) (.head _);simp only at hql;refine Bg rfl X1 rfl rfl rfl rfl hrow hb17 rfl rfl oM oM λa3 c3 w27 hr23 hG5=>?_;obtain⟨u3,hS7⟩:=hS0.app hrow hfc hla ⟨0,0,0,0,[]⟩ (EN.nil _ _ none 0) hr23 hG5 oM;obtain⟨lb,_,he3,-⟩:=hS7.tblk
 cases he3
 have hlo:lb<wl.heap.size∨lb=w26.heap.size:=by
  rcases hG5.own with h|h
  · exact .inl (htlt9 lb h.symm)
  · exact .inr (Option.some.inj h)
 have hlge:w26.heap.size≤w27.heap.size:=hG5.size;replace hX:=hX.grow hG5 (λb hb=>(hla b hb).1);have sz13:=hG5.size;replace hKp:=hKp.grow hG5 (by simp only[List.mem_cons,List.not_mem_nil,or_false];intro c hc e;have h1:=(hla c e.symm).1;have h2:=htlt9 c e.symm;omega);have hA9:=AY.refl w27;refine Ab (An hKp<|Av rfl rfl (λ_ hS=>EV s.length rfl rfl (by simp <;> omega) Ld oM)<|Am rfl ?_ Ae);have hS0:=(hS7.ext hA9);obtain⟨_,ls,hes,hsb,hcell,hsl2,hsw,hsu⟩:=hS0.sblk
 cases hes
 refine Cl rfl rfl rfl JN rfl hsb rfl (by simp <;> omega) λw28 hb18 hC9=>?_;have hS8:=hS0.cell' rfl hsb hb18 hC9;replace hX:=hX.chg hC9 hsw;have sz14:=hC9.size;replace hKp:=hKp.chg hC9 nM;have hA10:=AY.refl w28;refine Ab (An hKp<|BD<|gQ [.sq _,.bk _,.bk _,.sq _] BF 2 [] (Ar _) (λ_=>Aa rfl (EV q.len rfl rfl oM Lj oM) ?_));have hS0:=(hS8.ext hA10);obtain⟨_,ll,hel,hlb,hll,hlw,hlu⟩:=hS0.tblk
 cases hel
 refine Cl rfl rfl rfl NO rfl hlb rfl (by simp <;> omega) λw29 hb19 hC10=>?_;have hS9:=hS0.last' rfl hlb o hS0.kid hb19 hC10;replace hX:=hX.chg hC10 hlw;have sz15:=hC10.size;have hA11:=AY.refl w29;refine gL [.bk _,.bk _,.sq _] BF 8 [] (Ar _) (And.intro ⟨oM,oM⟩<|λ_=>HN rest.length (E5 3 (.slice (some ⟨sb,0,none⟩) (s.length+1) sc) 4 (.slice (some ⟨ob,0,none⟩) s.length oc) 10 (.slice (some ⟨bt,0,none⟩) toks.length tc) 11 (.int .i64 (toks.length:Int)) 12 (.int .i64 ((i+1:Nat):Int))) (by simp) lE ⟨i+1,pre++[tk],rest,s,q.snoc o cur,_,_,oc,sb,sc,_,_,_,rfl,rfl,rfl,by rw[htk];simp,by simp[hpi],hm.trans (GQ h2 h4),by simp only[List.length_cons] at h200;omega,by rw[Fo.len_snoc];have:=hsl (o,q) (.head _);simp only at this;omega,LB hsl,(by rw[Fo.len_snoc];exact (hS9.ext hA11).knil),hX⟩);refine Am rfl ?_ ?_;refine Cn rfl rfl Lj QZ rfl rfl rfl rfl rfl λb10 w30 hb20 hE15 hs10 hz15=>?_;replace hb3:=hb3.ext hE15;replace hb7:=hb7.ext hE15;replace hb16:=hb16.ext hE15;replace hX:=hX.trans hE15;replace hA1:=hA1.trans hE15;replace hA4:=hA4.trans hE15;replace hKp:=hKp.ext hE15;refine Ab (An hKp<|Am rfl ?_ Ae);obtain⟨_,ls,hes,hsb,hcell,hsl2,hsw,hsu⟩:=(hP.ext hA4).sblk
 cases hes
 refine Aa rfl (Al rfl JN hsb (by simpa using hcell))<|Ab (An hKp<|Av rfl rfl (λ_ hS=>Me rfl Lj)<|Am rfl ?_ Ae);have hS0:=(hP.ext hA4);obtain⟨xs,hrow,hfc,hla⟩:=hS0.top;have hql:=hsl (o,q) (.head _);simp only at hql;refine Bg rfl X1 rfl rfl rfl rfl hrow hb20 rfl rfl oM oM λa3 c3 w31 hr24 hG6=>?_;obtain⟨u3,hS10⟩:=hS0.app hrow hfc hla ⟨0,0,0,0,[]⟩ (EN.nil _ _ none 0) hr24 hG6 oM;obtain⟨lb,_,he3,-⟩:=hS10.tblk
 cases he3
 have hlo:lb<wl.heap.size∨lb=w30.heap.size:=by
  rcases hG6.own with h|h
  · exact .inl (htlt9 lb h.symm)
  · exact .inr (Option.some.inj h)
 have hlge:w30.heap.size≤w31.heap.size:=hG6.size;replace hX:=hX.grow hG6 (λb hb=>(hla b hb).1);have sz16:=hG6.size;replace hKp:=hKp.grow hG6 (by simp only[List.mem_cons,List.not_mem_nil,or_false];intro c hc e;have h1:=(hla c e.symm).1;have h2:=htlt9 c e.symm;omega);have hA12:=AY.refl w31;refine Ab (An hKp<|Av rfl rfl (λ_ hS=>EV s.length rfl rfl (by simp <;> omega) Ld oM)<|Am rfl ?_ Ae);have hS0:=(hS10.ext hA12);obtain⟨_,ls,hes,hsb,hcell,hsl2,hsw,hsu⟩:=hS0.sblk
 cases hes
 refine Cl rfl rfl rfl JN rfl hsb rfl (by simp <;> omega) λw32 hb21 hC11=>?_;have hS11:=hS0.cell' rfl hsb hb21 hC11;replace hX:=hX.chg hC11 hsw;have sz17:=hC11.size;replace hKp:=hKp.chg hC11 nM;have hA13:=AY.refl w32;refine Ab (An hKp<|BD<|gQ [.sq _,.bk _,.bk _,.sq _] BF 2 [] (Ar _) (λ_=>Aa rfl (EV q.len rfl rfl oM Lj oM) ?_));have hS0:=(hS11.ext hA13);obtain⟨_,ll,hel,hlb,hll,hlw,hlu⟩:=hS0.tblk
 cases hel
 refine Cl rfl rfl rfl NO rfl hlb rfl (by simp <;> omega) λw33 hb22 hC12=>?_;have hS12:=hS0.last' rfl hlb o hS0.kid hb22 hC12;replace hX:=hX.chg hC12 hlw;have sz18:=hC12.size;have hA14:=AY.refl w33;refine gL [.bk _,.bk _,.sq _] BF 8 [] (Ar _) (And.intro ⟨oM,oM⟩<|λ_=>HN rest.length (E5 3 (.slice (some ⟨sb,0,none⟩) (s.length+1) sc) 4 (.slice (some ⟨ob,0,none⟩) s.length oc) 10 (.slice (some ⟨bt,0,none⟩) toks.length tc) 11 (.int .i64 (toks.length:Int)) 12 (.int .i64 ((i+1:Nat):Int))) (by simp) lE ⟨i+1,pre++[tk],rest,s,q.snoc o cur,_,_,oc,sb,sc,_,_,_,rfl,rfl,rfl,by rw[htk];simp,by simp[hpi],hm.trans (GQ h2 h4),by simp only[List.length_cons] at h200;omega,by rw[Fo.len_snoc];have:=hsl (o,q) (.head _);simp only at this;omega,LB hsl,(by rw[Fo.len_snoc];exact (hS12.ext hA14).knil),hX⟩);exact Ae;exact Ae;refine Kh rfl rfl ?_;have hr25:=(hbt.ext hX);have hr26:=hb3;refine Ey mixed (A8 w3 [bt,b2]) (rd [0,1,2,4,5] (.br 3 (.rd 6 (.br 7 (.br 8 (.rd 9 (.rd 11 (.br 10 (.br 12 .fin .fin) (.br 12 (.br 10 .fin .fin) .fin)))) .fin) .fin)) (.br 7 (.br 3 (.rd 6 (.br 8 (.rd 9 (.rd 11 (.br 10 (.br 12 .fin .fin) (.br 12 (.br 10 .fin .fin) .fin)))) .fin)) .fin) .fin))) kR kR kR λw34 hE16 hz16=>?_;have hKp:A8 w3 [bt,b2] w34:=A8.cons hr25 hE16 (A8.cons hr26 hE16 (A8.nil _ _));refine⟨hKp,?_⟩;replace hb3:=hb3.ext hE16;replace hX:=hX.trans hE16;replace hA1:=hA1.trans hE16;refine Av rfl rfl (λ_ hS=>A1 rfl)<|Av rfl rfl (λ_ hS=>A1 rfl)<|Av rfl rfl (λ_ hS=>EV st.length rfl rfl oM Ld oM)<|Av rfl rfl (λ_ hS=>D0 rfl Hw (hr26.keep hS (.tail _ (.head _))) rfl)<|Av rfl rfl (λ_ hS=>DV rfl qT QZ rfl)<|Am rfl ?_ ?_;obtain⟨_,ls,hes,hsb,hcell,hsl2,hsw,hsu⟩:=(hS.ext hA1).sblk
 cases hes
 refine Aa rfl (Al rfl JN hsb (by simpa using hcell))<|Ab (An hKp<|Av rfl rfl (λ_ hS=>Me rfl Lj)<|Am rfl ?_ Ae);refine Cn rfl rfl Lj QZ rfl rfl rfl rfl rfl λb11 w35 hb23 hE17 hs11 hz17=>?_;replace hb3:=hb3.ext hE17;replace hX:=hX.trans hE17;replace hA1:=hA1.trans hE17;replace hKp:=hKp.ext hE17;refine Ab (An hKp<|Am rfl ?_ Ae);have hS0:=(hS.ext hA1);obtain⟨xs,hrow,hfc,hla⟩:=hS0.top;refine Bg rfl X1 rfl rfl rfl rfl hrow hb23 rfl rfl oM oM λa3 c3 w36 hr27 hG7=>?_;obtain⟨u3,hS13⟩:=hS0.app hrow hfc hla ⟨0,0,0,0,[]⟩ (EN.nil _ _ none 0) hr27 hG7 oM;obtain⟨lb,_,he3,-⟩:=hS13.tblk
 cases he3
 have hlo:lb<wl.heap.size∨lb=w35.heap.size:=by
  rcases hG7.own with h|h
  · exact .inl (htlt lb h.symm)
  · exact .inr (Option.some.inj h)
 have hlge:w35.heap.size≤w36.heap.size:=hG7.size;replace hX:=hX.grow hG7 (λb hb=>(hla b hb).1);have sz19:=hG7.size;replace hKp:=hKp.grow hG7 (by simp only[List.mem_cons,List.not_mem_nil,or_false];intro c hc e;have h1:=(hla c e.symm).1;have h2:=htlt c e.symm;omega);have hA15:=AY.refl w36;refine Ab (An hKp<|Av rfl rfl (λ_ hS=>EV cur.len rfl rfl oM Lj oM)<|Av rfl rfl (λ_ hS=>EV st.length rfl rfl oM Ld oM)<|Am rfl ?_ ?_);have hS0:=(hS13.ext hA15);obtain⟨_,ll,hel,hlb,hll,hlw,hlu⟩:=hS0.tblk
 cases hel
 refine Cl rfl rfl rfl NO rfl hlb rfl (by simp <;> omega) λw37 hb24 hC13=>?_;have hS14:=hS0.last' rfl hlb tk (EN.nil _ _ none 0) hb24 hC13;replace hX:=hX.chg hC13 hlw;have sz20:=hC13.size;replace hKp:=hKp.chg hC13 nM;have hA16:=AY.refl w37;refine Ab (An hKp<|Am rfl ?_ Ae);have hS0:=(hS14.ext hA16);obtain⟨_,ls,hes,hsb,hcell,hsl2,hsw,hsu⟩:=hS0.sblk
 cases hes
 refine Cl rfl rfl rfl JN rfl hsb rfl (by simp <;> omega) λw38 hb25 hC14=>?_;have hS15:=hS0.cell' rfl hsb hb25 hC14;replace hX:=hX.chg hC14 hsw;have sz21:=hC14.size;replace hKp:=hKp.chg hC14 nM;have hA17:=AY.refl w38;refine Ab (An hKp<|BD<|gQ [.bk _,.bk _,.sq _] BF 7 [] (Ar _) (And.intro ⟨oM,oM⟩<|λ_=>HN rest.length (E5 3 (.slice (some ⟨sb,0,none⟩) (st.length+1) sc) 4 (.slice oa st.length oc) 10 (.slice (some ⟨bt,0,none⟩) toks.length tc) 11 (.int .i64 (toks.length:Int)) 12 (.int .i64 ((i+1:Nat):Int))) (by simp) lE ⟨i+1,pre++[tk],rest,st,cur.snoc tk .nil,_,oa,oc,sb,sc,_,_,_,rfl,rfl,rfl,by rw[htk];simp,by simp[hpi],hm.trans (Ha h2 h4),h200,by rw[Fo.len_snoc];omega,Ku hsl,(by rw[Fo.len_snoc];exact (hS15.ext hA17)),hX⟩));refine Am rfl ?_ ?_;have hS0:=(hS13.ext hA15);obtain⟨_,ls,hes,hsb,hcell,hsl2,hsw,hsu⟩:=hS0.sblk
 cases hes
 refine Cl rfl rfl rfl JN rfl hsb rfl (by simp <;> omega) λw39 hb26 hC15=>?_;have hS16:=hS0.cell' rfl hsb hb26 hC15;replace hX:=hX.chg hC15 hsw;have sz22:=hC15.size;replace hKp:=hKp.chg hC15 nM;have hA18:=AY.refl w39;refine Ab (An hKp<|Am rfl ?_ Ae);have hS0:=(hS16.ext hA18);obtain⟨_,ll,hel,hlb,hll,hlw,hlu⟩:=hS0.tblk
 cases hel
 refine Cl rfl rfl rfl NO rfl hlb rfl (by simp <;> omega) λw40 hb27 hC16=>?_;have hS17:=hS0.last' rfl hlb tk (EN.nil _ _ none 0) hb27 hC16;replace hX:=hX.chg hC16 hlw;have sz23:=hC16.size;replace hKp:=hKp.chg hC16 nM;have hA19:=AY.refl w40;refine Ab (An hKp<|BD<|gQ [.bk _,.bk _,.sq _] BF 7 [] (Ar _) (And.intro ⟨oM,oM⟩<|λ_=>HN rest.length (E5 3 (.slice (some ⟨sb,0,none⟩) (st.length+1) sc) 4 (.slice oa st.length oc) 10 (.slice (some ⟨bt,0,none⟩) toks.length tc) 11 (.int .i64 (toks.length:Int)) 12 (.int .i64 ((i+1:Nat):Int))) (by simp) lE ⟨i+1,pre++[tk],rest,st,cur.snoc tk .nil,_,oa,oc,sb,sc,_,_,_,rfl,rfl,rfl,by rw[htk];simp,by simp[hpi],hm.trans (Ha h2 h4),h200,by rw[Fo.len_snoc];omega,Ku hsl,(by rw[Fo.len_snoc];exact (hS17.ext hA19)),hX⟩));exact Ae;refine Am rfl ?_ ?_;refine Cn rfl rfl Lj QZ rfl rfl rfl rfl rfl λb12 w41 hb28 hE18 hs12 hz18=>?_;replace hb3:=hb3.ext hE18;replace hX:=hX.trans hE18;replace hA1:=hA1.trans hE18;replace hKp:=hKp.ext hE18;refine Ab (An hKp<|Am rfl ?_ Ae);obtain⟨_,ls,hes,hsb,hcell,hsl2,hsw,hsu⟩:=(hS.ext hA1).sblk
 cases hes
 refine Aa rfl (Al rfl JN hsb (by simpa using hcell))<|Ab (An hKp<|Av rfl rfl (λ_ hS=>Me rfl Lj)<|Am rfl ?_ Ae);have hS0:=(hS.ext hA1);obtain⟨xs,hrow,hfc,hla⟩:=hS0.top;refine Bg rfl X1 rfl rfl rfl rfl hrow hb28 rfl rfl oM oM λa3 c3 w42 hr28 hG8=>?_;obtain⟨u3,hS18⟩:=hS0.app hrow hfc hla ⟨0,0,0,0,[]⟩ (EN.nil _ _ none 0) hr28 hG8 oM;obtain⟨lb,_,he3,-⟩:=hS18.tblk
 cases he3
 have hlo:lb<wl.heap.size∨lb=w41.heap.size:=by
  rcases hG8.own with h|h
  · exact .inl (htlt lb h.symm)
  · exact .inr (Option.some.inj h)
 have hlge:w41.heap.size≤w42.heap.size:=hG8.size;replace hX:=hX.grow hG8 (λb hb=>(hla b hb).1);have sz24:=hG8.size;replace hKp:=hKp.grow hG8 (by simp only[List.mem_cons,List.not_mem_nil,or_false];intro c hc e;have h1:=(hla c e.symm).1;have h2:=htlt c e.symm;omega);have hA20:=AY.refl w42;refine Ab (An hKp<|Av rfl rfl (λ_ hS=>EV cur.len rfl rfl oM Lj oM)<|Av rfl rfl (λ_ hS=>EV st.length rfl rfl oM Ld oM)<|Am rfl ?_ ?_);have hS0:=(hS18.ext hA20);obtain⟨_,ll,hel,hlb,hll,hlw,hlu⟩:=hS0.tblk
 cases hel
 refine Cl rfl rfl rfl NO rfl hlb rfl (by simp <;> omega) λw43 hb29 hC17=>?_;have hS19:=hS0.last' rfl hlb tk (EN.nil _ _ none 0) hb29 hC17;replace hX:=hX.chg hC17 hlw;have sz25:=hC17.size;replace hKp:=hKp.chg hC17 nM;have hA21:=AY.refl w43;refine Ab (An hKp<|Am rfl ?_ Ae);have hS0:=(hS19.ext hA21);obtain⟨_,ls,hes,hsb,hcell,hsl2,hsw,hsu⟩:=hS0.sblk
 cases hes
 refine Cl rfl rfl rfl JN rfl hsb rfl (by simp <;> omega) λw44 hb30 hC18=>?_;have hS20:=hS0.cell' rfl hsb hb30 hC18;replace hX:=hX.chg hC18 hsw;have sz26:=hC18.size;replace hKp:=hKp.chg hC18 nM;have hA22:=AY.refl w44;refine Ab (An hKp<|BD<|gQ [.bk _,.bk _,.sq _] BF 7 [] (Ar _) (And.intro ⟨oM,oM⟩<|λ_=>HN rest.length (E5 3 (.slice (some ⟨sb,0,none⟩) (st.length+1) sc) 4 (.slice oa st.length oc) 10 (.slice (some ⟨bt,0,none⟩) toks.length tc) 11 (.int .i64 (toks.length:Int)) 12 (.int .i64 ((i+1:Nat):Int))) (by simp) lE ⟨i+1,pre++[tk],rest,st,cur.snoc tk .nil,_,oa,oc,sb,sc,_,_,_,rfl,rfl,rfl,by rw[htk];simp,by simp[hpi],hm.trans (Ha h2 h4),h200,by rw[Fo.len_snoc];omega,Ku hsl,(by rw[Fo.len_snoc];exact (hS20.ext hA22)),hX⟩));refine Am rfl ?_ ?_;have hS0:=(hS18.ext hA20);obtain⟨_,ls,hes,hsb,hcell,hsl2,hsw,hsu⟩:=hS0.sblk
 cases hes
 refine Cl rfl rfl rfl JN rfl hsb rfl (by simp <;> omega) λw45 hb31 hC19=>?_;have hS21:=hS0.cell' rfl hsb hb31 hC19;replace hX:=hX.chg hC19 hsw;have sz27:=hC19.size;replace hKp:=hKp.chg hC19 nM;have hA23:=AY.refl w45;refine Ab (An hKp<|Am rfl ?_ Ae);have hS0:=(hS21.ext hA23);obtain⟨_,ll,hel,hlb,hll,hlw,hlu⟩:=hS0.tblk
 cases hel
 refine Cl rfl rfl rfl NO rfl hlb rfl (by simp <;> omega) λw46 hb32 hC20=>?_;have hS22:=hS0.last' rfl hlb tk (EN.nil _ _ none 0) hb32 hC20;replace hX:=hX.chg hC20 hlw;have sz28:=hC20.size;replace hKp:=hKp.chg hC20 nM;have hA24:=AY.refl w46;refine Ab (An hKp<|BD<|gQ [.bk _,.bk _,.sq _] BF 7 [] (Ar _) (And.intro ⟨oM,oM⟩<|λ_=>HN rest.length (E5 3 (.slice (some ⟨sb,0,none⟩) (st.length+1) sc) 4 (.slice oa st.length oc) 10 (.slice (some ⟨bt,0,none⟩) toks.length tc) 11 (.int .i64 (toks.length:Int)) 12 (.int .i64 ((i+1:Nat):Int))) (by simp) lE ⟨i+1,pre++[tk],rest,st,cur.snoc tk .nil,_,oa,oc,sb,sc,_,_,_,rfl,rfl,rfl,by rw[htk];simp,by simp[hpi],hm.trans (Ha h2 h4),h200,by rw[Fo.len_snoc];omega,Ku hsl,(by rw[Fo.len_snoc];exact (hS22.ext hA24)),hX⟩));exact Ae;exact Ae;refine gP [.sq _] BF 3 [] (Ar _) (λ_=>Nq<|gQ [.bk _,.sq _] BF 4 [] (Ar _) (λ_=>?_))
 have hrz:rest=[]:=by
  rcases rest with _|⟨t9,rest⟩
  · rfl
  · simp at hil;have:=h1;simp at this;omega
 subst hrz;refine gP [.sq _,.sq _] BF 6 [] (Ar _) (λ_=>sP 104 rfl (λh6=>?_) (λh6=>?_));refine Gk rfl rfl ?_;rcases st with _|⟨o,s⟩
 · simp at h6
 obtain⟨ob,lo,lo2,tz,fz,hoa,hob,hoz,hod⟩:=(hS.ext hA1).oblk0
 cases hoa
 exact gP [.sq _] BF 2 [] (Ar _) (λ_=>Aa rfl (KN (i:=0) rfl rfl H0 (by simp))<|Aa rfl (BO rfl T4)<|Aa rfl (Mq 1 rfl Hp hob hod oM rfl)<|Aa rfl (DV rfl kT jY rfl)<|Aa rfl (BZ rfl aT)<|Cr (BN rfl) (And.intro rfl<|⟨(tz.ln,tz.co),hm.trans (Tt hoz),rfl,hX⟩));refine gP [.sq _] BF 4 [] (Ar _) (λ_=>?_);rcases st with _|⟨o,s⟩
 rotate_left
 · simp at h6
 refine gP [.sq _] BF 2 [] (Ar _) (λ_=>Aa rfl (KN (i:=0) rfl rfl Ld oM) ?_);obtain⟨_,ls,hes,hsb,hcell,hsl2,hsw,hsu⟩:=(hS.ext hA1).sblk
 cases hes
 exact Aa rfl (Al rfl JN hsb (by simpa using hcell))<|gL [.sq _] BF 4 [] (Ar _) (λ_=>B1 (AJ rfl (Ak rfl))<|⟨cur,a,c,hm.trans Rg,rfl,(hS.ext hA1).out,hX⟩)
def uD:Eh:=⟨[(42,0,0)],[],[],[],[(42,true,2),(26,true,2),(34,false,1),(27,false,1)],[(42,[.int .i64 0,.int .i64 0]),(34,[.slice none 0 0]),(26,[.int .i64 0,.int .i64 0]),(27,[.int .i64 0])],[(26,[(0,1),(1,1)])],[]⟩
theorem Bk:uD.Ok prog:=⟨(And.intro cG tQ),tQ,tQ,tQ,(And.intro rM (And.intro Db (And.intro EK (And.intro H3 tQ)))),(And.intro pI (And.intro oY (And.intro VO (And.intro fR tQ)))),(And.intro Zn tQ),tQ⟩
theorem QK(w:World)(c2 c3 c4:Nat) :
  CallsD prog 9 [.pointer (some ⟨c2,0,none⟩),.pointer (some ⟨c3,0,none⟩),.pointer (some ⟨c4,0,none⟩)].toArray .returning w λr m w'=>∃x,r=.returned x∧m=.returning∧AY w w':=by
 refine D9 (R:=λw'=>AY w w') func9 rfl rfl rfl rfl N3<|(?_:AF prog _ (Ge prog _ (λ_ w'=>AY w w') λ_ _=>False) [] (X0 w (λ_=>0)) [] [] [] (.code _) [] _ []) w (λ_=>0) (C8 (λ_ _=>rfl) tQ tQ);exact go Bk 3 [] (λ_=>EU rfl rfl (λw f hM=>Q9 PT rfl)<|go Bk 7 [] (λ_=>cL (λw f hM=>Ea rfl) (λw f hM=>hM.exm.stp.ext)))
theorem Rn(w:World)(f:Fq)(hv:Vl w f)(c2 c3 c4:Nat)(v2 x3 y3 v4:Value)(hc2:AT w c2 [v2] 34)(hc3:AT w c3 [x3,y3] 26)(hc4:AT w c4 [v4] 27)(hf:f c2=0∧f c3=0∧f c4=0)(hn:c2≠c3∧c2≠c4∧c3≠c4)(er:Int×Int) :
  CallsD prog 9 [.pointer (some ⟨c2,0,none⟩),.pointer (some ⟨c3,0,none⟩),.pointer (some ⟨c4,0,none⟩)].toArray (.panicking (Rc 42 er)) w λr m w'=>∃x,r=.returned x∧m=.panicking [{v:=.iface 42 (.agg #[.int .i64 er.1,.int .i64 er.2]),recovered:=true}]∧(∃f',CR (λb=>b=c2∨b=c3∨b=c4) w f w' f'∧AT w' c2 [.slice none 0 0] 34∧AT w' c3 [.int .i64 er.1,.int .i64 er.2] 26∧AT w' c4 [.int .i64 10] 27):=by
 refine D9 (R:=λw'=>∃f',CR (λb=>b=c2∨b=c3∨b=c4) w f w' f'∧AT w' c2 [.slice none 0 0] 34∧AT w' c3 [.int .i64 er.1,.int .i64 er.2] 26∧AT w' c4 [.int .i64 10] 27) func9 rfl rfl rfl rfl Qo<|(?_:AF prog _ (Ge prog _ (λ_ w'=>∃f',CR (λb=>b=c2∨b=c3∨b=c4) w f w' f'∧AT w' c2 [.slice none 0 0] 34∧AT w' c3 [.int .i64 er.1,.int .i64 er.2] 26∧AT w' c4 [.int .i64 10] 27) λ_ _=>False) [] ⟨λb=>b=c2∨b=c3∨b=c4,λ_=>False,λ_ _=>True,w,f⟩ [] [] [] (.code _) [] _ [⟨c2,[v2],34,false⟩,⟨c3,[x3,y3],26,false⟩,⟨c4,[v4],27,false⟩]) w f (fZ hv hc2 hc3 hc4 hf hn);refine go Bk 3 [] (λ_=>EU rfl rfl (λw f hM=>Q0 PT rfl)<|go Bk 5 [] (λ_=>EU rfl rfl (λw f hM=>TZ rfl iN)<|go Bk 11 [0] (λb1=>y<|λ_=>Dp [0] Ap (.rd 0 (.rd 1 (.br 2 (.br 3 (.br 4 .fin .fin) .fin) .fin))) rfl kR<|AA Bk 2 [0] (y<|λ_=>Ag rfl ?_ Aj))));refine go Bk 2 [1] (y<|λ_=>Ax [0] rfl<|Ag rfl ?_ Aj);refine go Bk 2 [2] (y<|λ_=>Ax [0] rfl<|Ag rfl ?_ Aj);exact go Bk 2 [3] (y<|λ_=>Ax [0] rfl<|B4<|go Bk 1 [] (λ_=>cL (λw f hM=>Ea rfl) (λw f hM=>⟨f,hM.exm,hM.blk _ kH,hM.blk _ V3,hM.blk _ Vn⟩)))
variable {σ:Br}{f f':Fq}{fn:Func}{a:Option Addr}{v2 v4 x3 y3:Value}{w w':World}
theorem qO{p:Nd×Int×Int×Int}{b2 b3 b4:Nat}(hn:b2≠b3∧b2≠b4∧b3≠b4)(hr:fn.results=#[.cell 2 34,.cell 3 26,.cell 4 27])(h2:σ 2=some (.pointer (some ⟨b2,0,none⟩)))(h3:σ 3=some (.pointer (some ⟨b3,0,none⟩)))(h4:σ 4=some (.pointer (some ⟨b4,0,none⟩))){er:Int×Int}(hm:p=(.nil,er.1,er.2,10))(hE:CR (λ_=>False) w f w' f')
  (k2:AT w' b2 [v2] 34∧f' b2=0∧(true=true→w.heap.size≤b2)) (k3:AT w' b3 [x3,y3] 26∧f' b3=0∧(true=true→w.heap.size≤b3)) (k4:AT w' b4 [v4] 27∧f' b4=0∧(true=true→w.heap.size≤b4))
  (tmps:Array Value) (ht:∀t,t∈[2,3,4]→∀v,σ t=some v→tmps.getD t undef=v):Leaves prog fn tmps (λe w'=>∃v,e=.returned v∧Sm p w f v w') [{target:=.fn (.func 9) ([.pointer (some ⟨b2,0,none⟩),.pointer (some ⟨b3,0,none⟩),.pointer (some ⟨b4,0,none⟩)]:List Value).toArray,args:=#[]}] (.panicking (Rc 42 er)) w':=by
 refine FW (by simp) fB (Rn w' f' hE.val b2 b3 b4 v2 x3 y3 v4 k2.1 k3.1 k4.1 ⟨k2.2.1,k3.2.1,k4.2.1⟩ hn er) λwz hz=>?_;rw[KV];obtain⟨f3,e3,z2,z3,z4⟩:=hz;refine Cb (σ:=AL (E2 2 (.pointer (some ⟨b2,0,none⟩)) 3 (.pointer (some ⟨b3,0,none⟩))) 4 (.pointer (some ⟨b4,0,none⟩))) (λt v hv=>?_) (EC hr (B3 rfl EK z2 rfl) (Ac rfl Db z3 rfl) (B3 rfl H3 z4 rfl)) ⟨_,rfl,f3,none,0,CR.trans0 hE e3 (λb hb=>?_),by rw[hm];rfl,by rw[hm];exact⟨Nat.zero_le _,.inl rfl⟩⟩
 ·
  by_cases e4:t=4
  · subst e4;exact ht 4 (by simp) v (h4.trans hv)
  by_cases e5:t=3
  · subst e5;exact ht 3 (by simp) v (h3.trans hv)
  by_cases e2:t=2
  · subst e2;exact ht 2 (by simp) v (h2.trans hv)
  have n4:Nat.beq t 4=false:=by cases h:Nat.beq t 4 with|false=>rfl|true=>exact absurd (Nat.eq_of_beq_eq_true h) e4
  have n3:Nat.beq t 3=false:=by cases h:Nat.beq t 3 with|false=>rfl|true=>exact absurd (Nat.eq_of_beq_eq_true h) e5
  have n2:Nat.beq t 2=false:=by cases h:Nat.beq t 2 with|false=>rfl|true=>exact absurd (Nat.eq_of_beq_eq_true h) e2
  simp[AL,Go.SW.e0,n2,n3,n4] at hv
 ·
  rcases hb with rfl|rfl|rfl
  · exact k2.2.2 rfl
  · exact k3.2.2 rfl
  · exact k4.2.2 rfl
theorem oV{p:Nd×Int×Int×Int}{b2 b3 b4:Nat}(hr:fn.results=#[.cell 2 34,.cell 3 26,.cell 4 27])(h2:σ 2=some (.pointer (some ⟨b2,0,none⟩)))(h3:σ 3=some (.pointer (some ⟨b3,0,none⟩)))(h4:σ 4=some (.pointer (some ⟨b4,0,none⟩))){nds:Nd}(hm:p=(nds,0,0,0))(hE:CR (λ_=>False) w f w' f'){c:Nat}(hB:AK w' f' nds a c)
  (k2:AT w' b2 [.slice a nds.len c] 34) (k3:AT w' b3 [.int .i64 0,.int .i64 0] 26) (k4:AT w' b4 [.int .i64 0] 27)
  (tmps:Array Value) (ht:∀t v,σ t=some v→tmps.getD t undef=v):Leaves prog fn tmps (λe w'=>∃v,e=.returned v∧Sm p w f v w') [{target:=.fn (.func 9) ([.pointer (some ⟨b2,0,none⟩),.pointer (some ⟨b3,0,none⟩),.pointer (some ⟨b4,0,none⟩)]:List Value).toArray,args:=#[]}] .returning w':=by
 refine FW (by simp) fB (QK w' b2 b3 b4) λwz hz=>?_;have e3:=CR.of_ext hz hE.val;subst hm;exact Cb ht (EC hr (B3 h2 EK (k2.ext hz) rfl) (Ac h3 Db (k3.ext hz) rfl) (B3 h4 H3 (k4.ext hz) rfl)) ⟨_,rfl,f',a,c,CR.trans0 hE e3 (λb hb=>hb.elim),rfl,AK.mono _ _ _ _ hB (e3.fle hE.val (λ_ h=>h.elim))⟩
theorem RZ(w:World)(f:Fq)(hv:Vl w f)(ta:Option Addr)(tc:Nat)(toks:List AM)(hT:Co w 80 5 ta tc toks.length (F8 toks))(hlen:toks.length≤100000) :
  BS prog 11 #[.slice ta toks.length tc] w (BW (α:=Fo×Option Addr×Nat) (λx=>.slice x.2.1 x.1.len x.2.2) (λx=>AR toks [] .nil=.ok x.1) (λx=>[λw f=>Bx w f x.1 x.2.1 x.2.2]) w f) (Sx 42 (λe=>AR toks [] .nil=.error e) w f) :=
 (Ve w ta _ tc toks hT rfl hlen).mono (λ_ w' ⟨fo,a,c,h1,h2,h3,h4⟩=>⟨(fo,a,c),fW w w' f,h2,h1,cM h4,EN.frz h3,tQ⟩) λ_ w' ⟨e,h1,h2,h3⟩=>⟨e,f,h2,h1,CR.of_ext h3 hv⟩
set_option maxHeartbeats 1000000 in
theorem WH(w:World)(f:Fq)(hv:Vl w f)(hJ:D5 w f)(n:Nat)(src:lU)(e:Int×Int×Int)(hcd:(e.2.2 != 0)=true)(hs:∀w1,Gl w1→BC prog 8 #[S src] w1 λv w'=>v=.tuple #[.slice none 0 0,.agg #[.int .i64 e.1,.int .i64 e.2.1],.int .i64 e.2.2]∧AY w1 w') :
  BC prog 6 #[S src] w (Sm (Ib (n+1) (.error e)) w f):=by
 refine lJ (K:=[2,3,4]) (X:=X0 w f) (H:=[]) (R:=[]) (B:=[]) (Fs:=[λw f=>D5 w f]) (f:=f) func6 rfl rfl rfl (C8 hv ⟨hJ,tQ⟩ ⟨D5.mono,tQ⟩)<|go Bk 8 [] (λb1=>λb2=>λb3=>λ_=>KA (p:=b1≠b2∧b1≠b3∧b2≠b3) (λw f hM=>by have h9:=hM.nd;simp[CZ] at h9;exact⟨λe=>h9.2 e.symm,λe=>h9.1.2 e.symm,λe=>h9.1.1 e.symm⟩) λhn=>go Bk 2 [] (λ_=>D4 rfl rfl (eC fP rfl rfl) (λw f hM=>hs _ (D5.gl hM.f0))<|go Bk 16 [1,0,0] (y<|y<|y<|λ_=>Ba 13 rfl rfl (λh1=>?_) (λh1=>?_))));refine go Bk 2 [] (λ_=>Xu [2,3,4] (λ_=>True) Fy [] Ap (.br 0 (.br 1 (.br 2 (.br 3 (.br 4 .fin .fin) .fin) .fin) (.br 2 (.br 1 (.br 3 (.br 4 .fin .fin) .fin) (.br 3 (.br 1 (.br 4 .fin .fin) .fin) .fin)) .fin)) (.br 1 (.br 0 (.br 2 (.br 3 (.br 4 .fin .fin) .fin) .fin) (.br 2 (.br 0 (.br 3 (.br 4 .fin .fin) .fin) .fin) .fin)) (.br 2 (.br 0 (.br 1 (.br 3 (.br 4 .fin .fin) .fin) (.br 3 (.br 1 (.br 4 .fin .fin) .fin) .fin)) (.br 1 (.br 0 (.br 3 (.br 4 .fin .fin) .fin) .fin) .fin)) .fin))) rfl kR kR kR rfl Fu<|Ag rfl ?_ ?_);refine go Bk 2 [1] (y<|λ_=>Ax [] rfl<|Ag rfl ?_ ?_);refine go Bk 2 [0] (y<|λ_=>Ax [] rfl<|Ag rfl ?_ Aj);refine go Bk 2 [2] (y<|λ_=>Ax [] rfl<|Ag rfl ?_ Aj);refine go Bk 2 [1] (y<|λ_=>Ax [] rfl<|Ag rfl ?_ Aj);exact go Bk 2 [0] (y<|λ_=>Ax [] rfl<|B4<|go Bk 3 [] (λ_=>λw9 f9 hM=>λtmps ht=>Cb ht (EC rfl (B3 rfl EK hM.k2 rfl) (Ac rfl Db hM.k1 rfl) (B3 rfl H3 hM.k0 rfl)) ⟨_,rfl,f9,none,0,hM.exm,rfl,⟨Nat.zero_le _,.inl rfl⟩⟩));refine Ag rfl ?_ Aj;refine go Bk 2 [2] (y<|λ_=>Ax [] rfl<|Ag rfl ?_ ?_);refine go Bk 2 [0] (y<|λ_=>Ax [] rfl<|Ag rfl ?_ Aj);refine go Bk 2 [1] (y<|λ_=>Ax [] rfl<|Ag rfl ?_ Aj);exact go Bk 2 [0] (y<|λ_=>Ax [] rfl<|B4<|go Bk 3 [] (λ_=>λw9 f9 hM=>λtmps ht=>Cb ht (EC rfl (B3 rfl EK hM.k2 rfl) (Ac rfl Db hM.k1 rfl) (B3 rfl H3 hM.k0 rfl)) ⟨_,rfl,f9,none,0,hM.exm,rfl,⟨Nat.zero_le _,.inl rfl⟩⟩));refine Ag rfl ?_ Aj;refine go Bk 2 [1] (y<|λ_=>Ax [] rfl<|Ag rfl ?_ Aj);refine go Bk 2 [0] (y<|λ_=>Ax [] rfl<|Ag rfl ?_ Aj);exact go Bk 2 [0] (y<|λ_=>Ax [] rfl<|B4<|go Bk 3 [] (λ_=>λw9 f9 hM=>λtmps ht=>Cb ht (EC rfl (B3 rfl EK hM.k2 rfl) (Ac rfl Db hM.k1 rfl) (B3 rfl H3 hM.k0 rfl)) ⟨_,rfl,f9,none,0,hM.exm,rfl,⟨Nat.zero_le _,.inl rfl⟩⟩));refine Ag rfl ?_ ?_;refine go Bk 2 [0] (y<|λ_=>Ax [] rfl<|Ag rfl ?_ ?_);refine go Bk 2 [1] (y<|λ_=>Ax [] rfl<|Ag rfl ?_ Aj);refine go Bk 2 [2] (y<|λ_=>Ax [] rfl<|Ag rfl ?_ Aj);refine go Bk 2 [1] (y<|λ_=>Ax [] rfl<|Ag rfl ?_ Aj);exact go Bk 2 [0] (y<|λ_=>Ax [] rfl<|B4<|go Bk 3 [] (λ_=>λw9 f9 hM=>λtmps ht=>Cb ht (EC rfl (B3 rfl EK hM.k2 rfl) (Ac rfl Db hM.k1 rfl) (B3 rfl H3 hM.k0 rfl)) ⟨_,rfl,f9,none,0,hM.exm,rfl,⟨Nat.zero_le _,.inl rfl⟩⟩));refine Ag rfl ?_ Aj;refine go Bk 2 [2] (y<|λ_=>Ax [] rfl<|Ag rfl ?_ Aj);refine go Bk 2 [1] (y<|λ_=>Ax [] rfl<|Ag rfl ?_ Aj);refine go Bk 2 [1] (y<|λ_=>Ax [] rfl<|Ag rfl ?_ Aj)
 exact go Bk 2 [0] (y<|λ_=>Ax [] rfl<|B4<|go Bk 3 [] (λ_=>λw9 f9 hM=>λtmps ht=>Cb ht (EC rfl (B3 rfl EK hM.k2 rfl) (Ac rfl Db hM.k1 rfl) (B3 rfl H3 hM.k0 rfl)) ⟨_,rfl,f9,none,0,hM.exm,rfl,⟨Nat.zero_le _,.inl rfl⟩⟩));refine Ag rfl ?_ Aj;refine go Bk 2 [2] (y<|λ_=>Ax [] rfl<|Ag rfl ?_ ?_);refine go Bk 2 [1] (y<|λ_=>Ax [] rfl<|Ag rfl ?_ ?_);refine go Bk 2 [0] (y<|λ_=>Ax [] rfl<|Ag rfl ?_ Aj);refine go Bk 2 [1] (y<|λ_=>Ax [] rfl<|Ag rfl ?_ Aj);exact go Bk 2 [0] (y<|λ_=>Ax [] rfl<|B4<|go Bk 3 [] (λ_=>λw9 f9 hM=>λtmps ht=>Cb ht (EC rfl (B3 rfl EK hM.k2 rfl) (Ac rfl Db hM.k1 rfl) (B3 rfl H3 hM.k0 rfl)) ⟨_,rfl,f9,none,0,hM.exm,rfl,⟨Nat.zero_le _,.inl rfl⟩⟩));refine Ag rfl ?_ Aj;refine go Bk 2 [1] (y<|λ_=>Ax [] rfl<|Ag rfl ?_ Aj);refine go Bk 2 [0] (y<|λ_=>Ax [] rfl<|Ag rfl ?_ Aj);exact go Bk 2 [0] (y<|λ_=>Ax [] rfl<|B4<|go Bk 3 [] (λ_=>λw9 f9 hM=>λtmps ht=>Cb ht (EC rfl (B3 rfl EK hM.k2 rfl) (Ac rfl Db hM.k1 rfl) (B3 rfl H3 hM.k0 rfl)) ⟨_,rfl,f9,none,0,hM.exm,rfl,⟨Nat.zero_le _,.inl rfl⟩⟩));refine Ag rfl ?_ Aj;refine go Bk 2 [0] (y<|λ_=>Ax [] rfl<|Ag rfl ?_ Aj);refine go Bk 2 [1] (y<|λ_=>Ax [] rfl<|Ag rfl ?_ Aj);refine go Bk 2 [1] (y<|λ_=>Ax [] rfl<|Ag rfl ?_ Aj);exact go Bk 2 [0] (y<|λ_=>Ax [] rfl<|B4<|go Bk 3 [] (λ_=>λw9 f9 hM=>λtmps ht=>Cb ht (EC rfl (B3 rfl EK hM.k2 rfl) (Ac rfl Db hM.k1 rfl) (B3 rfl H3 hM.k0 rfl)) ⟨_,rfl,f9,none,0,hM.exm,rfl,⟨Nat.zero_le _,.inl rfl⟩⟩));exact absurd (hcd.symm.trans h1) dC
set_option maxHeartbeats 1000000 in
theorem Zw(w:World)(f:Fq)(hv:Vl w f)(hJ:D5 w f)(n:Nat)(src:lU)(toks:List AM)(hlen:toks.length≤100000)(hok:∀fo,AR toks [] .nil=.ok fo→fo.all (Hb (n+1))∧fo.len≤100000)(hs:∀w1,Gl w1→BC prog 8 #[S src] w1 λv w'=>∃ta tc,v=.tuple #[.slice ta toks.length tc,.agg #[.int .i64 0,.int .i64 0],.int .i64 0]∧(Co w' 80 5 ta tc toks.length (F8 toks)∧∀b,rb ta=some b→w1.heap.size≤b)∧AY w1 w') :
  BC prog 6 #[S src] w (Sm (Ib (n+1) (.ok toks)) w f):=by
 refine lJ (K:=[2,3,4]) (X:=X0 w f) (H:=[]) (R:=[]) (B:=[]) (Fs:=[λw f=>D5 w f]) (f:=f) func6 rfl rfl rfl (C8 hv ⟨hJ,tQ⟩ ⟨D5.mono,tQ⟩)<|go Bk 8 [] (λb1=>λb2=>λb3=>λ_=>KA (p:=b1≠b2∧b1≠b3∧b2≠b3) (λw f hM=>by have h9:=hM.nd;simp[CZ] at h9;exact⟨λe=>h9.2 e.symm,λe=>h9.1.2 e.symm,λe=>h9.1.1 e.symm⟩) λhn=>go Bk 2 [] (λ_=>xC (val:=λa c=>.tuple #[.slice a toks.length c,.agg #[.int .i64 0,.int .i64 0],.int .i64 0]) rfl rfl (eC fP rfl rfl) (λw f hM=>hs w (D5.gl hM.f0)) λta tc=>go Bk 21 [1,0,0] (y<|y<|y<|λ_=>EU rfl rfl (λw f hM=>TQ rfl)<|vU rfl rfl<|go Bk 5 [] (λ_=>pM (pe:=λe=>AR toks [] .nil=.error e) rfl rfl (eC mF rfl rfl) (λw f hM=>RZ w f hM.vl ta tc toks (hM.row _ (.head _)) hlen) (λ_=>⟨Bx.mono,tQ⟩) (λer w2 f2 he hE hH=>qO hn rfl rfl rfl rfl (by rw[Ib,he]) hE (hH _ V3) (hH _ kH) (hH _ uH)) ?_))));rintro⟨fo,fa,fc⟩ htr;dsimp only at htr ⊢;obtain⟨hall,hfl⟩:=hok fo htr;refine pM (pe:=λe=>AN (CA (n+1)) fo=.error e) rfl rfl (eC D2 rfl rfl) (λw f hM=>Ca 12 iY (CA (n+1)) (Hb (n+1)) (λw f hv hJ t k a c hd hT=>WS n w f hv hJ t k a c hd hT) w f hM.vl hM.f1 fo _ _ hall hfl hM.f0) (λ_=>⟨AK.mono,tQ⟩) (λer w2 f2 he hE hH=>qO hn rfl rfl rfl rfl (by rw[Ib,htr];simp only[he]) hE (hH _ V3) (hH _ kH) (hH _ uH)) ?_;rintro⟨⟨nds,xnds⟩,na,nc⟩ hnds;dsimp only at hnds ⊢;exact go Bk 7 [2,1,0] (y<|y<|y<|λ_=>λw9 f9 hM=>λtmps ht=>oV rfl rfl rfl rfl (show Ib (n+1) (.ok toks)=(nds,0,0,0) by rw[Ib,htr];simp only[hnds]) hM.exm hM.f0 hM.k2 hM.k1 hM.k0 tmps ht)
def vC:Eh:=⟨[(78,1,1),(78,2,2),(26,1,1),(26,0,0)],[],[],[],[(3,false,1)],[(26,[.int .i64 0,.int .i64 0])],[(26,[(0,1),(1,1)])],[]⟩
theorem IA:vC.Ok prog:=⟨(And.intro HG (And.intro Nc (And.intro gZ (And.intro iS tQ)))),tQ,tQ,tQ,(And.intro Qs tQ),(And.intro Ri tQ),(And.intro eG tQ),tQ⟩
theorem IC(w:World)(b:Nat)(src:lU)(i:Nat)(p:Ps)(sl:Value)(hsc:AT w b [S src,.int .i64 (i:Int),.int .i64 p.1,.int .i64 p.2,sl] 78) :
  BC prog 27 #[.pointer (some ⟨b,0,none⟩)] w λv w'=>v=.bool (decide ((i:Int)<(src.length:Int)))∧AY w w':=by
 have hbl:=hsc.lt;have hX:=AY.refl w;refine enter func27 rfl rfl rfl<|gP [] IA 6 [] (Ar _) (λ_=>?_);have hr1:=hsc;refine Ei mixed (A8 w [b]) [(true,0),(true,1),(true,2),(true,3),(true,4),(true,5),(true,6),(true,7),(true,8),(true,9),(true,10)] kR kR rfl rfl λw1 hE1 hz1=>?_;have hKp:A8 w [b] w1:=A8.cons hr1 hE1 (A8.nil _ _);refine⟨hKp,?_⟩;replace hsc:=hsc.ext hE1;replace hX:=hX.trans hE1;refine A3 rfl (λ_ hS=>A1 rfl)<|A3 rfl (λ_ hS=>B8 rfl)<|A3 rfl (λ_ hS=>BO rfl HG)<|A3 rfl (λ_ hS=>Al rfl Qs (hr1.keep hS (.head _)) rfl)<|A3 rfl (λ_ hS=>A1 rfl)<|A3 rfl (λ_ hS=>B8 rfl)<|A3 rfl (λ_ hS=>BO rfl JP)<|A3 rfl (λ_ hS=>Al rfl UA (hr1.keep hS (.head _)) rfl)<|A3 rfl (λ_ hS=>MP rfl I5)<|A3 rfl (λ_ hS=>UN rfl rfl) ?_;exact A3 rfl (λ_ hS=>Dq rfl)<|Ex<|gQ [.sq _] IA 2 [] (Ar _) (λ_=>B1 (AJ rfl (Ak rfl))<|⟨rfl,hX⟩)
theorem FR(w:World)(b:Nat)(src:lU)(i:Nat)(p:Ps)(sl:Value)(hsc:AT w b [S src,.int .i64 (i:Int),.int .i64 p.1,.int .i64 p.2,sl] 78)(c:UInt8)(hc:src[i]?=some c)(hi:i<1000000)(hp:Pk i p) :
  BC prog 59 #[.pointer (some ⟨b,0,none⟩)] w λv w'=>v=.int .u8 c.toNat∧AT w' b [S src,.int .i64 ((i+1:Nat):Int),.int .i64 (adv c p).1,.int .i64 (adv c p).2,sl] 78∧Ll b w w':=by
 have hbl:=hsc.lt;obtain⟨hp1,hp2,hp3,hp4⟩:=hp;have hX:=Ll.refl b w;refine enter func59 rfl rfl rfl<|gP [] IA 6 [] (Ar _) (λ_=>?_);have hr1:=hsc;refine Ei mixed (A8 w [b]) [(true,0),(true,1),(true,2),(true,3),(true,4),(true,5),(true,6),(true,7),(true,8),(true,9)] kR kR rfl rfl λw1 hE1 hz1=>?_;have hKp:A8 w [b] w1:=A8.cons hr1 hE1 (A8.nil _ _);refine⟨hKp,?_⟩;replace hsc:=hsc.ext hE1;replace hX:=hX.trans hE1;refine A3 rfl (λ_ hS=>A1 rfl)<|A3 rfl (λ_ hS=>B8 rfl)<|A3 rfl (λ_ hS=>BO rfl JP)<|A3 rfl (λ_ hS=>Al rfl UA (hr1.keep hS (.head _)) rfl)<|A3 rfl (λ_ hS=>A1 rfl)<|A3 rfl (λ_ hS=>B8 rfl)<|A3 rfl (λ_ hS=>BO rfl HG)<|A3 rfl (λ_ hS=>Al rfl Qs (hr1.keep hS (.head _)) rfl)<|A3 rfl (λ_ hS=>DB rfl rfl I5 oM (by simpa using hc))<|A3 rfl (λ_ hS=>Dq rfl) ?_;refine Ex<|gQ [.sq _] IA 4 [] (Ar _) (λ_=>Aa rfl (B8 rfl)<|gL [.sq _] IA 3 [0,1] (kB hsc (Ar _)) (y2<|And.intro ⟨oM,oM⟩<|λ_=>Aa rfl (B8 rfl)<|Aa rfl (BO rfl HG)<|A4 rfl rfl rfl Qs rfl hsc rfl rfl λw2 hb1 hC1=>?_));replace hX:=hX.chg hC1 oM;have sz1:=hC1.size;refine gL [.sq _] IA 5 [] (Ar _) (λ_=>Aa rfl (B8 rfl)<|gL [.sq _] IA 4 [0,3] (kB hb1 (Ar _)) (y2<|And.intro ⟨oM,oM⟩<|λ_=>Aa rfl (B8 rfl)<|gL [.sq _] IA 2 [] (Ar _) (λ_=>A4 rfl rfl rfl Qs rfl hb1 rfl rfl λw3 hb2 hC2=>?_)));replace hX:=hX.chg hC2 oM;have sz2:=hC2.size;refine gL [.sq _] IA 9 [] (Ar _) (λ_=>sP 30 rfl (λh1=>?_) (λh1=>?_));refine gP [.sq _] IA 4 [] (Ar _) (λ_=>Aa rfl (B8 rfl)<|gL [.sq _] IA 5 [0,2] (kB hb2 (Ar _)) (y2<|And.intro ⟨oM,oM⟩<|λ_=>Aa rfl (B8 rfl)<|Aa rfl (BO rfl Nc)<|A4 rfl rfl rfl Hp rfl hb2 rfl rfl λw4 hb3 hC3=>?_));replace hX:=hX.chg hC3 oM;have sz3:=hC3.size;exact gL [.sq _] IA 9 [] (Ar _) (λ_=>B1 (AJ rfl (Ak rfl))<|⟨rfl,by simp only[adv,h1];exact hb3,hX⟩);exact gP [.sq _] IA 10 [] (Ar _) (λ_=>B1 (AJ rfl (Ak rfl))<|⟨rfl,by simp only[adv,h1];exact hb2,hX⟩)
def tP:Eh:=⟨[(78,2,2)],[],[],[],[(26,true,2)],[(75,[.int .i64 0,.int .i64 0])],[(75,[(0,2)])],[]⟩
theorem Eo:tP.Ok prog:=⟨(And.intro Nc tQ),tQ,tQ,tQ,(And.intro Hp tQ),(And.intro eB tQ),(And.intro iK tQ),tQ⟩
theorem S8(w:World)(b:Nat)(src:lU)(i:Nat)(p:Ps)(sl:Value)(hsc:AT w b [S src,.int .i64 (i:Int),.int .i64 p.1,.int .i64 p.2,sl] 78)(c:UInt8)(hc:src[i]?=some c)(hi:i<100000)(hp:Pk i p) :
  BS prog 85 #[.pointer (some ⟨b,0,none⟩)] w (λv w'=>∃(c1:UInt8)(i1:Nat)(p1:Ps),Ho p (src.drop i)=.ok (c1,src.drop i1,p1)∧v=.int .u8 c1.toNat∧AT w' b [S src,.int .i64 ((i1:Nat):Int),.int .i64 p1.1,.int .i64 p1.2,sl] 78∧Ll b w w'∧i<i1∧i1≤src.length∧Pk i1 p1) (λcc w'=>∃e,Ho p (src.drop i)=.error e∧cc=Rc 75 e∧Ll b w w'):=by
 have hbl:=hsc.lt;have hX:=Ll.refl b w;refine IY func85 rfl rfl rfl<|gP [] Eo 8 [] (Ar _) (λ_=>Aa rfl (B8 rfl)<|gL [.sq _] Eo 2 [0,2] (kB hsc (Ar _)) (y2<|λ_=>CT rfl Ri λb1 w1 hb1 hE1 hs1 hz1=>?_));replace hsc:=hsc.ext hE1;replace hX:=hX.trans hE1;refine A4 rfl rfl rfl Hp rfl hb1 rfl rfl λw2 hb2 hC1=>?_;replace hsc:=hsc.chg hC1 oM;replace hX:=hX.chg hC1 oM;have sz1:=hC1.size;refine gL [.sq _] Eo 6 [] (Ar _) (λ_=>A7 rfl (Aw NP rfl rfl) (FR _ b src i p sl hsc c hc oM hp) ?_);rintro _ w3 ⟨rfl,hb3,hE2⟩;replace hb2:=hb2.exb hE2 oM;replace hX:=hX.trans2 hE2;have sz2:=hE2.size;have hp1:=Pk.adv (c:=c) hp;refine gL [.sq _,.sq _] Eo 16 [] (Ar _) (λ_=>sP 14 rfl (λh1=>?_) (λh1=>?_));exact gP [.sq _,.bk _,.sq _] Eo 13 [] (Ar _) (λ_=>B1 (AJ rfl (Ak rfl))<|⟨c,i+1,adv c p,by rw[Bi hc];simp[Ho,h1],rfl,hb3,hX,oM,by have:=Cp hc;omega,hp1⟩);refine gP [.sq _,.bk _,.sq _] Eo 6 [] (Ar _) (λ_=>sP 14 rfl (λh2=>?_) (λh2=>?_));exact gP [.bk _,.sq _] Eo 10 [] (Ar _) (λ_=>B1 (AJ rfl (Ak rfl))<|⟨c,i+1,adv c p,by rw[Bi hc];simp[Ho,h1,h2],rfl,hb3,hX,oM,by have:=Cp hc;omega,hp1⟩);refine gP [.bk _,.sq _] Eo 7 [] (Ar _) (λ_=>sP 18 rfl (λh3=>?_) (λh3=>?_));exact gP [.bk _,.sq _] Eo 9 [] (Ar _) (λ_=>B1 (AJ rfl (Ak rfl))<|⟨10,i+1,adv c p,by rw[Bi hc];simp[Ho,h1,h2,h3],rfl,hb3,hX,oM,by have:=Cp hc;omega,hp1⟩);refine gP [.bk _,.sq _] Eo 7 [] (Ar _) (λ_=>sP 20 rfl (λh4=>?_) (λh4=>?_));refine gP [.bk _,.sq _] Eo 2 [] (Ar _) (λ_=>?_);have hr1:=hb3;have hr2:=hb2;refine Ei mixed (A8 w3 [b,b1]) [(true,0),(true,1),(true,2),(true,3),(true,4),(true,5),(true,6),(true,7),(true,8),(true,9),(true,10)] kR kR rfl rfl λw4 hE3 hz2=>?_;have hKp:A8 w3 [b,b1] w4:=A8.cons hr1 hE3 (A8.cons hr2 hE3 (A8.nil _ _));refine⟨hKp,?_⟩;replace hb2:=hb2.ext hE3;replace hb3:=hb3.ext hE3;replace hX:=hX.trans hE3;refine A3 rfl (λ_ hS=>A1 rfl)<|A3 rfl (λ_ hS=>B8 rfl)<|A3 rfl (λ_ hS=>BO rfl HG)<|A3 rfl (λ_ hS=>Al rfl Qs (hr1.keep hS (.head _)) rfl)<|A3 rfl (λ_ hS=>Nh rfl rfl ⟨oM,oM⟩)<|A3 rfl (λ_ hS=>A1 rfl)<|A3 rfl (λ_ hS=>B8 rfl)<|A3 rfl (λ_ hS=>BO rfl JP)<|A3 rfl (λ_ hS=>Al rfl UA (hr1.keep hS (.head _)) rfl)<|A3 rfl (λ_ hS=>MP rfl I5) ?_;refine A3 rfl (λ_ hS=>Ye rfl rfl)<|Ex<|DE<|sP 32 rfl (λh5=>?_) (λh5=>?_);refine gP [.bk _,.sq _] Eo 2 [] (Ar _) (λ_=>?_);have hlt2:i+3≤src.length:=by have:=h5;simp at this;omega
 obtain⟨a1,ha1⟩:=K8 (show i+1<src.length by omega);obtain⟨a2,ha2⟩:=K8 (show i+2<src.length by omega);have hr3:=hb3;have hr4:=hb2;refine Ei mixed (A8 w4 [b,b1]) [(true,0),(true,1),(true,2),(true,3),(true,4),(true,5),(true,6),(true,7),(true,8),(true,10),(true,11),(true,12),(true,13),(true,14),(true,15),(true,16),(true,17),(true,18),(true,19),(false,9),(false,20),(true,21),(true,22)] kR kR rfl rfl λw5 hE4 hz3=>?_;have hKp:A8 w4 [b,b1] w5:=A8.cons hr3 hE4 (A8.cons hr4 hE4 (A8.nil _ _));refine⟨hKp,?_⟩;replace hb2:=hb2.ext hE4;replace hb3:=hb3.ext hE4;replace hX:=hX.trans hE4;refine A3 rfl (λ_ hS=>A1 rfl)<|A3 rfl (λ_ hS=>B8 rfl)<|A3 rfl (λ_ hS=>BO rfl JP)<|A3 rfl (λ_ hS=>Al rfl UA (hr3.keep hS (.head _)) rfl)<|A3 rfl (λ_ hS=>A1 rfl)<|A3 rfl (λ_ hS=>B8 rfl)<|A3 rfl (λ_ hS=>BO rfl HG)<|A3 rfl (λ_ hS=>Al rfl Qs (hr3.keep hS (.head _)) rfl)<|A3 rfl (λ_ hS=>DB rfl rfl I5 oM (show src[(((i+1:Nat):Int)).toNat]?=some a1 by rw[Int.toNat_natCast];exact ha1))<|A3 rfl (λ_ hS=>A1 rfl) ?_;refine A3 rfl (λ_ hS=>B8 rfl)<|A3 rfl (λ_ hS=>BO rfl JP)<|A3 rfl (λ_ hS=>Al rfl UA (hr3.keep hS (.head _)) rfl)<|A3 rfl (λ_ hS=>A1 rfl)<|A3 rfl (λ_ hS=>B8 rfl)<|A3 rfl (λ_ hS=>BO rfl HG)<|A3 rfl (λ_ hS=>Al rfl Qs (hr3.keep hS (.head _)) rfl)<|A3 rfl (λ_ hS=>Nh rfl rfl ⟨oM,oM⟩)<|A3 rfl (λ_ hS=>DB rfl rfl I5 oM (show src[(((i+1:Nat):Int)+1).toNat]?=some a2 by rw[show (((i+1:Nat):Int)+1).toNat=i+2 by omega];exact ha2))<|Fa ?_;refine A7 rfl (Aw V1 rfl rfl) (F2 _ F7 _) ?_;rintro _ w6 ⟨rfl,hE5⟩;replace hb2:=hb2.ext hE5;replace hb3:=hb3.ext hE5;replace hX:=hX.trans hE5;replace hKp:=hKp.ext hE5;have sz3:=hE5.size;refine Ab (H5 hKp<|Fa<|A7 rfl (Aw V1 rfl rfl) (F2 _ F7 _) ?_);rintro _ w7 ⟨rfl,hE6⟩;replace hb2:=hb2.ext hE6;replace hb3:=hb3.ext hE6;replace hX:=hX.trans hE6;replace hKp:=hKp.ext hE6;have sz4:=hE6.size;refine Ab (H5 hKp<|A3 rfl (λ_ hS=>Dq rfl)<|A3 rfl (λ_ hS=>Dq rfl)<|Ex<|gQ [.sq _,.bk _,.sq _] Eo 6 [] (Ar _) (λ_=>sL 56 rfl (λh6=>?_) (λh6=>?_)));refine gL [.sq _,.bk _,.sq _] Eo 5 [] (Ar _) (λ_=>sP 59 rfl (λh7=>?_) (λh7=>?_));refine gP [.bk _,.sq _] Eo 4 [] (Ar _) (λ_=>A7 rfl (Aw NP rfl rfl) (FR _ b src (i+1) (adv c p) sl hb3 a1 ha1 oM hp1) ?_);rintro _ w8 ⟨rfl,hb4,hE7⟩;replace hb2:=hb2.exb hE7 oM;replace hX:=hX.trans2 hE7;have sz5:=hE7.size;have hp2:=Pk.adv (c:=a1) hp1;refine gL [.sq _,.bk _,.sq _] Eo 5 [] (Ar _) (λ_=>A7 rfl (Aw NP rfl rfl) (FR _ b src ((i+1)+1) (adv a1 (adv c p)) sl hb4 a2 ha2 oM hp2) ?_);rintro _ w9 ⟨rfl,hb5,hE8⟩;replace hb2:=hb2.exb hE8 oM;replace hX:=hX.trans2 hE8;have sz6:=hE8.size;have hp3:=Pk.adv (c:=a2) hp2;refine gL [.sq _,.bk _,.sq _] Eo 3 [] (Ar _) (λ_=>?_);have hx1:0≤Lib.indexByte F7 a1:=by have:=h6;simpa using this
 have hx2:0≤Lib.indexByte F7 a2:=by have:=h7;simpa using this
 have hy1:=aB a1;have hy2:=aB a2;exact gP [.sq _,.bk _,.sq _] Eo 2 [] (Ar _) (λ_=>Aa rfl (cU rfl rfl ⟨hx1,hy1⟩)<|Aa rfl (A1 rfl)<|Aa rfl (bP rfl rfl ⟨hx1,hy1⟩ ⟨hx2,hy2⟩)<|Aa rfl (D3 rfl fH (Vt ⟨oM,oM⟩))<|gL [.sq _,.bk _,.sq _] Eo 6 [] (Ar _) (λ_=>B1 (AJ rfl (Ak rfl))<|⟨UInt8.ofNat ((Lib.indexByte F7 a1).toNat*16+(Lib.indexByte F7 a2).toNat),i+3,adv a2 (adv a1 (adv c p)),by rw[Bi hc,Y5 ha1 ha2];simp[Ho,h1,h2,h3,h4,hx1,hx2],by rw[sM ⟨hx1,hy1⟩ ⟨hx2,hy2⟩],hb5,hX,oM,oM,hp3⟩));exact gP [.bk _,.sq _] Eo 7 [0,0] (kB hb2 (Ar _)) (y2<|λ_=>Aa rfl (BZ rfl J4)<|Cr (BN rfl) (And.intro rfl<|⟨p,by rw[Bi hc,Y5 ha1 ha2];exact SB h1 h2 h3 h4 (.inr (by have:=h7;simpa using this)),rfl,hX⟩));exact gL [.sq _,.bk _,.sq _] Eo 12 [0,0] (kB hb2 (Ar _)) (y2<|λ_=>Aa rfl (BZ rfl J4)<|Cr (BN rfl) (And.intro rfl<|⟨p,by rw[Bi hc,Y5 ha1 ha2];exact SB h1 h2 h3 h4 (.inl (by have:=h6;simpa using this)),rfl,hX⟩));exact gP [.bk _,.sq _] Eo 7 [0,0] (kB hb2 (Ar _)) (y2<|λ_=>Aa rfl (BZ rfl J4)<|Cr (BN rfl) (And.intro rfl<|⟨p,by rw[Bi hc];exact Yp h1 h2 h3 (by have:=h5;simp at this;simp;omega),rfl,hX⟩));exact gP [.bk _,.sq _] Eo 7 [0,0] (kB hb2 (Ar _)) (y2<|λ_=>Aa rfl (BZ rfl J4)<|Cr (BN rfl) (And.intro rfl<|⟨p,by rw[Bi hc];simp[Ho,h1,h2,h3,h4],rfl,hX⟩))
def uG:Eh:=⟨[(78,2,2)],[(148,5,1)],[],[],[(26,true,2)],[(75,[.int .i64 0,.int .i64 0]),(80,[.int .i64 0,.int .i64 0,.int .i64 0,.int .i64 0,.string ⟨#[]⟩])],[(75,[(0,2)]),(80,[(0,1),(1,2),(3,1),(4,1)])],[]⟩
theorem DO:uG.Ok prog:=⟨(And.intro Nc tQ),(And.intro PA tQ),tQ,tQ,(And.intro Hp tQ),(And.intro eB (And.intro Gb tQ)),(And.intro iK (And.intro WQ tQ)),tQ⟩
theorem SF(w:World)(b:Nat)(src:lU)(i:Nat)(p:Ps)(sl:Value)(hsc:AT w b [S src,.int .i64 (i:Int),.int .i64 p.1,.int .i64 p.2,sl] 78)(start:Ps)(hile:i≤src.length)(hi:src.length<100000)(hp:Pk i p) :
  BS prog 61 #[.pointer (some ⟨b,0,none⟩),.agg #[.int .i64 start.1,.int .i64 start.2]] w (λv w'=>∃(tx:lU)(i1:Nat)(p1:Ps),F3 start (src.length+1) p [] (src.drop i)=.ok (tx,src.drop i1,p1)∧v=.agg #[.int .i64 4,.int .i64 start.1,.int .i64 start.2,.int .i64 0,S tx]∧AT w' b [S src,.int .i64 ((i1:Nat):Int),.int .i64 p1.1,.int .i64 p1.2,sl] 78∧Ll b w w'∧i<i1∧i1≤src.length∧Pk i1 p1) (λcc w'=>∃e,F3 start (src.length+1) p [] (src.drop i)=.error e∧cc=Rc 75 e∧Ll b w w'):=by
 have hbl:=hsc.lt;have hX:=Ll.refl b w;refine IY func61 rfl rfl rfl<|gP [] DO 2 [] (Ar _) (λ_=>Ew rfl rfl rfl λb1 w1 hb1 hE1 hs1 hz1=>?_);replace hsc:=hsc.ext hE1;replace hX:=hX.trans hE1;refine CT rfl Gb λb2 w2 hb2 hE2 hs2 hz2=>?_;replace hsc:=hsc.ext hE2;replace hb1:=hb1.ext hE2;replace hX:=hX.trans hE2;refine gL [.sq _] DO 9 [] (Ar _) (λ_=>?_);refine Em (λk σ ds w'=>∃(j:Nat)(q:Ps)(acc:lU)(ra:Option Addr)(rc F:Nat),k=src.length-j∧ds=[]∧σ=(E4 0 (.pointer (some ⟨b,0,none⟩)) 3 (.pointer (some ⟨b1,0,none⟩)) 4 (.pointer (some ⟨b2,0,none⟩)) 5 (.slice ra acc.length rc))∧i≤j∧j≤src.length∧Pk j q∧src.length+1≤F+j∧F3 start (src.length+1) p [] (src.drop i)=F3 start F q acc (src.drop j)∧acc.length≤j∧AT w' b [S src,.int .i64 ((j:Nat):Int),.int .i64 q.1,.int .i64 q.2,sl] 78∧AT w' b1 [.int .i64 start.1,.int .i64 start.2] 26 ∧ AT w' b2 [.int .i64 0,.int .i64 0,.int .i64 0,.int .i64 0,.string ⟨#[]⟩] 80∧Co w' 5 1 ra rc acc.length (bC acc)∧(∀x,rb ra=some x→w.heap.size≤x∧x≠b1∧x≠b2)∧Ll b w w') (src.length-i) (E4 0 (.pointer (some ⟨b,0,none⟩)) 3 (.pointer (some ⟨b1,0,none⟩)) 4 (.pointer (some ⟨b2,0,none⟩)) 5 (.slice none 0 0)) lE ⟨i,p,[],none,0,src.length+1,rfl,rfl,rfl,Nat.le_refl _,hile,hp,oM,rfl,by simp,hsc,hb1,hb2,GU _ _ _,(λx hx=>by cases hx),hX⟩ ?_;rintro _ _ _ wl ⟨j,q,acc,ra,rc,F,rfl,rfl,rfl,hij,hjl,hq,hF,hm,hal,hscl,hl3,hl4,hrow,hlow,hX⟩;have szl:=hX.size;have lt3:=hl3.lt;have lt4:=hl4.lt;have lts:=hscl.lt;have hlowl:∀x,rb ra=some x→x<wl.heap.size:=λx hx=>hrow.lt hx;refine gP [] DO 4 [] (Ar _) (λ_=>A7 rfl (Aw Rw rfl rfl) (IC _ b src j q sl hscl) ?_);rintro _ w3 ⟨rfl,hE3⟩;replace hscl:=hscl.ext hE3;replace hl3:=hl3.ext hE3;replace hl4:=hl4.ext hE3;replace hrow:=hrow.ext hE3;replace hX:=hX.trans hE3;have sz1:=hE3.size;refine gL [.sq _,.sq _] DO 2 [] (Ar _) (λ_=>sP 9 rfl (λh1=>?_) (λh1=>?_));refine gP [.sq _] DO 5 [] (Ar _) (λ_=>?_);have hjlt:j<src.length:=by have:=h1;simpa using this
 obtain⟨c,hc⟩:=K8 hjlt;obtain⟨F,rfl⟩:∃F1,F=F1+1:=⟨F-1,oM⟩;refine gP [.sq _,.bk _] DO 2 [] (Ar _) (λ_=>Aa rfl (B8 rfl)<|gL [.sq _,.bk _] DO 2 [0,2] (kB hscl (Ar _)) (y2<|λ_=>CT rfl Ri λb3 w4 hb3 hE4 hs3 hz3=>?_));replace hscl:=hscl.ext hE4;replace hl3:=hl3.ext hE4;replace hl4:=hl4.ext hE4;replace hrow:=hrow.ext hE4;replace hX:=hX.trans hE4;refine A4 rfl rfl rfl Hp rfl hb3 rfl rfl λw5 hb4 hC1=>?_;replace hscl:=hscl.chg hC1 oM;replace hl3:=hl3.chg hC1 oM;replace hl4:=hl4.chg hC1 oM;replace hrow:=Co.chg hrow hC1 (λe=>by have:=hlow _ e;have:=hlowl _ e;omega);replace hX:=hX.chg hC1 oM;have sz2:=hC1.size;refine gL [.sq _,.bk _] DO 5 [] (Ar _) (λ_=>A7 rfl (Aw NP rfl rfl) (FR _ b src j q sl hscl c hc oM hq) ?_);rintro _ w6 ⟨rfl,hb5,hE5⟩;replace hl3:=hl3.exb hE5 oM;replace hl4:=hl4.exb hE5 oM;replace hrow:=Co.exb hrow hE5 (λe=>by have:=hlow _ e;omega);replace hb4:=hb4.exb hE5 oM;replace hX:=hX.trans2 hE5;have sz3:=hE5.size;have hp1:=Pk.adv (c:=c) hq;refine gL [.sq _,.bk _] DO 11 [] (Ar _) (λ_=>sP 16 rfl (λh2=>?_) (λh2=>?_));refine gP [.bk _,.bk _] DO 9 [] (Ar _) (λ_=>sP 21 rfl (λh3=>?_) (λh3=>?_));exact gP [.sq _,.bk _,.bk _] DO 4 [0,0] (kB hl3 (Ar _)) (y2<|λ_=>Aa rfl (BZ rfl J4)<|Cr (BN rfl) (And.intro rfl<|⟨start,hm.trans (Zv hc h2 h3),rfl,hX⟩));refine gP [.sq _,.bk _,.bk _] DO 7 [0,0] (kB hl3 (Ar _)) (y2<|λ_=>Aa rfl (XM rfl Sd hrow)<|Aa rfl (DV rfl WQ Gb rfl)<|A4 rfl rfl rfl Hw rfl hl4 rfl rfl λw7 hb6 hC2=>?_);replace hl3:=hl3.chg hC2 oM;replace hrow:=Co.chg hrow hC2 (λe=>by have:=hlow _ e;have:=hlowl _ e;omega);replace hb4:=hb4.chg hC2 oM;replace hb5:=hb5.chg hC2 oM;replace hX:=hX.chg hC2 oM;have sz4:=hC2.size;exact gL [.sq _,.bk _,.bk _] DO 5 [] (Ar _) (λ_=>W0<|gQ [.bk _,.sq _] DO 2 [] (Ar _) (λ_=>B1 (AJ rfl (Ac rfl Hw hb6 rfl))<|⟨acc,j+1,adv c q,hm.trans (Zr hc h2 h3),rfl,hb5,hX,oM,oM,hp1⟩));refine gP [.bk _,.bk _] DO 8 [] (Ar _) (λ_=>sP 29 rfl (λh4=>?_) (λh4=>?_));exact gP [.bk _,.bk _] DO 4 [0,0] (kB hb4 (Ar _)) (y2<|λ_=>Aa rfl (BZ rfl J4)<|Cr (BN rfl) (And.intro rfl<|⟨q,hm.trans (Zu hc h2 h4),rfl,hX⟩));refine gP [.bk _,.bk _] DO 8 [] (Ar _) (λ_=>sP 35 rfl (λh5=>?_) (λh5=>?_));refine gP [.bk _,.bk _] DO 4 [] (Ar _) (λ_=>Cn rfl rfl PA tN rfl rfl rfl rfl rfl λb4 w8 hb7 hE6 hs4 hz4=>?_);replace hl3:=hl3.ext hE6;replace hl4:=hl4.ext hE6;replace hrow:=hrow.ext hE6;replace hb4:=hb4.ext hE6;replace hb5:=hb5.ext hE6;replace hX:=hX.trans hE6;refine Bg rfl YK rfl rfl rfl rfl hrow hb7 rfl rfl oM oM λra2 rc2 w9 hr2 hG=>?_;have hlow2:∀x,rb ra2=some x→w.heap.size≤x∧x≠b1∧x≠b2:=Cf hG hlow oM;replace hl3:=hl3.grow hG (λe=>by have:=hlow _ e.symm;have:=hlowl _ e.symm;omega);replace hl4:=hl4.grow hG (λe=>by have:=hlow _ e.symm;have:=hlowl _ e.symm;omega);replace hb5:=hb5.grow hG (λe=>by have:=hlow _ e.symm;have:=hlowl _ e.symm;omega);replace hX:=hX.grow hG (λx hx=>(hlow x hx).1);have sz5:=hG.size;refine gL [.bk _,.bk _] DO 4 [] (Ar _) (λ_=>?_)
 have hl2:acc.length+1=(acc++[c]).length:=by simp
 refine HN (src.length-(j+1)) (E4 0 (.pointer (some ⟨b,0,none⟩)) 3 (.pointer (some ⟨b1,0,none⟩)) 4 (.pointer (some ⟨b2,0,none⟩)) 5 (.slice ra2 (acc++[c]).length rc2)) (by have:=Cp hc;omega) (vX rfl rfl rfl (hl2▸rfl)) ⟨j+1,adv c q,acc++[c],ra2,rc2,F,rfl,rfl,rfl,oM,by have:=Cp hc;omega,hp1,oM,hm.trans (Wq hc h2 h4 h5),by rw[← hl2];omega,hb5,hl3,hl4,by rw[← hl2,bC_app];exact hr2,hlow2,hX⟩;refine gP [.bk _,.bk _] DO 4 [] (Ar _) (λ_=>A7 rfl (Aw Rw rfl rfl) (IC _ b src (j+1) (adv c q) sl hb5) ?_);rintro _ w10 ⟨rfl,hE7⟩;replace hl3:=hl3.ext hE7;replace hl4:=hl4.ext hE7;replace hrow:=hrow.ext hE7;replace hb4:=hb4.ext hE7;replace hb5:=hb5.ext hE7;replace hX:=hX.trans hE7;have sz6:=hE7.size;refine gL [.sq _,.bk _,.bk _] DO 3 [] (Ar _) (λ_=>sP 42 rfl (λh6=>?_) (λh6=>?_));refine Gk rfl rfl ?_;obtain⟨c2,hc2⟩:=K8 (show j+1<src.length by have:=of_decide_eq_true h6;omega);refine gP [.bk _,.bk _] DO 3 [] (Ar _) (λ_=>Ck rfl (Aw nZ rfl rfl) (S8 _ b src (j+1) (adv c q) sl hb5 c2 hc2 oM hp1) ?_ (λcc wp hc1=>And.intro rfl (let ⟨e,he,hcc,hE⟩:=hc1;⟨e,hm.trans (Xv hc h2 h4 h5 (by have:=of_decide_eq_true h6;omega) he),hcc,hX.trans2 hE⟩)));rintro _ w11 ⟨c1,i1,p1,hesc,rfl,hb8,hE8,hi1,hi2,hp1⟩;replace hl3:=hl3.exb hE8 oM;replace hl4:=hl4.exb hE8 oM;replace hrow:=Co.exb hrow hE8 (λe=>by have:=hlow _ e;omega);replace hb4:=hb4.exb hE8 oM;replace hX:=hX.trans2 hE8;have sz7:=hE8.size;refine Cn rfl rfl PA tN rfl rfl rfl rfl rfl λb5 w12 hb9 hE9 hs5 hz5=>?_;replace hl3:=hl3.ext hE9;replace hl4:=hl4.ext hE9;replace hrow:=hrow.ext hE9;replace hb4:=hb4.ext hE9;replace hb8:=hb8.ext hE9;replace hX:=hX.trans hE9;refine Bg rfl YK rfl rfl rfl rfl hrow hb9 rfl rfl oM oM λra2 rc2 w13 hr2 hG=>?_;have hlow2:∀x,rb ra2=some x→w.heap.size≤x∧x≠b1∧x≠b2:=Cf hG hlow oM;replace hl3:=hl3.grow hG (λe=>by have:=hlow _ e.symm;have:=hlowl _ e.symm;omega);replace hl4:=hl4.grow hG (λe=>by have:=hlow _ e.symm;have:=hlowl _ e.symm;omega);replace hb8:=hb8.grow hG (λe=>by have:=hlow _ e.symm;have:=hlowl _ e.symm;omega);replace hX:=hX.grow hG (λx hx=>(hlow x hx).1);have sz8:=hG.size;refine gL [.bk _,.bk _] DO 4 [] (Ar _) (λ_=>?_);have hl2:acc.length+1=(acc++[c1]).length:=by simp
 refine HN (src.length-(i1)) (E4 0 (.pointer (some ⟨b,0,none⟩)) 3 (.pointer (some ⟨b1,0,none⟩)) 4 (.pointer (some ⟨b2,0,none⟩)) 5 (.slice ra2 (acc++[c1]).length rc2)) (by have:=Cp hc;omega) (vX rfl rfl rfl (hl2▸rfl)) ⟨i1,p1,acc++[c1],ra2,rc2,F,rfl,rfl,rfl,oM,by have:=Cp hc;omega,hp1,oM,hm.trans (Wm hc h2 h4 h5 (by have:=of_decide_eq_true h6;omega) hesc),by rw[← hl2];omega,hb8,hl3,hl4,by rw[← hl2,bC_app];exact hr2,hlow2,hX⟩;refine gP [.bk _,.bk _] DO 4 [] (Ar _) (λ_=>HN (src.length-(j+1)) (E4 0 (.pointer (some ⟨b,0,none⟩)) 3 (.pointer (some ⟨b1,0,none⟩)) 4 (.pointer (some ⟨b2,0,none⟩)) 5 (.slice ra acc.length rc)) (by have:=Cp hc;omega) lE ⟨j+1,adv c q,acc,ra,rc,F,rfl,rfl,rfl,oM,by have:=Cp hc;omega,hp1,oM,hm.trans ?_,oM,hb5,hl3,hl4,hrow,hlow,hX⟩);have hno:¬j+1<src.length:=by have:=h6;simp at this;omega
 rw[X3 hc h2 h4 h5 hno,RP (by have:=Cp hc;omega) hno];exact gP [.sq _] DO 3 [] (Ar _) (λ_=>Nq<|gQ [.bk _,.sq _] DO 5 [0,0] (kB hl3 (Ar _)) (y2<|λ_=>Aa rfl (BZ rfl J4)<|Cr (BN rfl) (And.intro rfl<|⟨start,hm.trans (RP oM (by have:=h1;simp at this;omega)),rfl,hX⟩)))
def tR:Eh:=⟨[],[(148,5,1)],[],[],[],[],[],[]⟩
theorem C9:tR.Ok prog:=⟨tQ,(And.intro PA tQ),tQ,tQ,tQ,tQ,tQ,tQ⟩
theorem CU(w:World)(s:lU)(hlen:s.length≤100000)(l:lU)(hl:l.length<4294967281)(h128:l.all (λc=>decide (c.toNat<128))=true) :
  BC prog 90 #[S s,S l] w λv w'=>v=.bool (HT s l)∧AY w w':=by
 have hX:=AY.refl w;refine enter func90 rfl rfl rfl<|gP [] C9 9 [] (Ar _) (λ_=>A7 rfl (Aw ZH rfl rfl) (P4 _ s l oM hl h128) ?_);rintro _ w1 ⟨rfl,hE1⟩;replace hX:=hX.trans hE1;have sz1:=hE1.size;exact gL [.sq _] C9 5 [] (Ar _) (λ_=>B1 (AJ rfl (Ak rfl))<|⟨rfl,hX⟩)
theorem JJ(w:World)(s:lU)(hlen:s.length≤100000) :
  BC prog 110 #[S s] w λv w'=>v=.bool (ET s)∧AY w w':=by
 have hX:=AY.refl w;refine enter func110 rfl rfl rfl<|gP [] C9 10 [] (Ar _) (λ_=>sL 5 rfl (λh1=>?_) (λh1=>?_));refine gL [.sq _] C9 1 [] (Ar _) (λ_=>BI rfl rfl rfl<|A7 rfl (Aw ZH rfl rfl) (P4 _ s G1 oM dC dC) ?_);rintro _ w1 ⟨rfl,hE1⟩;replace hX:=hX.trans hE1;have sz1:=hE1.size;exact gL [.sq _] C9 6 [] (Ar _) (λ_=>B1 (AJ rfl (Ak rfl))<|⟨by rw[ET,h1];rfl,hX⟩);exact gL [.sq _] C9 8 [] (Ar _) (λ_=>B1 (AJ rfl (Ak rfl))<|⟨by rw[ET,h1];rfl,hX⟩)
theorem Kt(n:Nat)(c:UInt8)(l:lU):Da n (c::l)=Da (n*10+(c.toNat-48)) l:=by conv=>lhs;unfold Da
theorem Na:∀(l:lU)(n:Nat),n≤Da n l
 | [],n=>Nat.le_refl _
 |c::l,n=>by
  have:=Na l (n*10+(c.toNat-48));rw[Kt];omega
theorem Yl:kA prog 9 148=some 5:=kR
theorem JK(w:World)(s:lU)(hlen:s.length≤100000)(hne:(s==[])=false)(hd:∀c∈s,48≤c.toNat∧c.toNat≤57) :
  BC prog 151 #[S s,.int .i64 10,.int .i64 63] w λv w'=>((Da 0 s≤9223372036854775807∧v=.tuple #[.int .u64 (Da 0 s:Int),.nilIface])∨(9223372036854775807<Da 0 s∧v=.tuple #[.int .u64 9223372036854775807,.iface 228 (.int .i64 1)]))∧AY w w':=by
 have hX:=AY.refl w;refine enter func151 rfl rfl rfl<|gP [] C9 13 [] (Ar _) (λ_=>sP 19 rfl (λh1=>?_) (λh1=>?_))
 ·
  exfalso;rw[hne] at h1;contradiction
 refine gP [.sq _] C9 81 [] (Ar _) (λ_=>Aa rfl (D3 (m:=63) rfl L5 dC)<|Aa rfl (K0 (9223372036854775808) rfl rfl dC dC)<|Aa rfl (Gn (9223372036854775807) rfl rfl dC)<|gL [.sq _] C9 17 [] (Ar _) (λ_=>bO rfl rfl Yl λbb bc w1 hbb hE1=>?_));replace hX:=hX.trans hE1;have sz1:=hE1.size;refine gL [.sq _,.sq _] C9 5 [] (Ar _) (λ_=>?_);refine Em (λk σ ds w'=>∃(i n:Nat),k=s.length-i∧ds=[]∧σ=(pY 0 (S s) 1 (.int .i64 10) 8 (.bool (10==0)) 9 (S s) 10 (.int .u64 1844674407370955162) 11 (.int .u64 9223372036854775807) 12 (.bool false) 13 (.int .u64 (n:Int)) 99 (.slice (some ⟨bb,0,none⟩) s.length bc) 100 (.int .i64 (s.length:Int)) 101 (.int .i64 (i:Int)))∧i≤s.length∧n≤9223372036854775807∧Da 0 s=Da n (s.drop i)∧nP w' bb (bC s)∧AY w w') s.length (pY 0 (S s) 1 (.int .i64 10) 8 (.bool (10==0)) 9 (S s) 10 (.int .u64 1844674407370955162) 11 (.int .u64 9223372036854775807) 12 (.bool false) 13 (.int .u64 ((0:Nat):Int)) 99 (.slice (some ⟨bb,0,none⟩) s.length bc) 100 (.int .i64 (s.length:Int)) 101 (.int .i64 ((0:Nat):Int))) lE ⟨0,0,rfl,rfl,rfl,Nat.zero_le _,Nat.zero_le _,rfl,hbb,hX⟩ ?_;rintro _ _ _ wl ⟨i,n,rfl,rfl,rfl,hi,hn,hm,hbb,hX⟩;refine gP [] C9 6 [] (Ar _) (λ_=>sP 102 rfl (λh2=>?_) (λh2=>?_));refine gP [.sq _] C9 7 [] (Ar _) (λ_=>?_);have hi2:i<s.length:=by have:=of_decide_eq_true h2;omega
 obtain⟨c,hc⟩:=K8 hi2;obtain⟨hc1,hc2⟩:=hd c (List.mem_of_getElem? hc);have hcell:(bC s)[0+i*1]?=some (.int .u8 c.toNat):=by simp[bC,hc]
 refine Aa rfl (KN (i:=i) rfl rfl PA hi2)<|Aa rfl (XH rfl wQ hbb hcell)<|gL [.sq _,.bk _,.sq _] C9 15 [] (Ar _) (λ_=>sL 109 rfl (λh3=>?_) (λh3=>?_))
 ·
  exfalso;have:=(beq_iff_eq).1 h3;omega
 refine gL [.sq _,.bk _,.sq _,.bk _,.sq _] C9 11 [] (Ar _) (λ_=>sL 115 rfl (λh4=>?_) (λh4=>?_));refine gL [.sq _,.bk _,.sq _,.bk _,.sq _] C9 6 [] (Ar _) (λ_=>sP 112 rfl (λh5=>?_) (λh5=>?_));refine gP [.bk _,.sq _,.bk _,.sq _] C9 3 [] (Ar _) (λ_=>Aa rfl (Gn ((c.toNat:Int)-48) rfl rfl (Vt ⟨oM,oM⟩))<|gL [.bk _,.sq _,.bk _,.sq _] C9 9 [] (Ar _) (λ_=>Aa rfl (D3 (m:=10) rfl fH dC)<|gL [.sq _,.sq _,.bk _,.sq _] C9 3 [] (Ar _) (λ_=>sP 137 rfl (λh6=>?_) (λh6=>?_))))
 ·
  exfalso;have:=of_decide_eq_true h6;omega
 refine gP [.sq _,.bk _,.sq _] C9 11 [] (Ar _) (λ_=>sP 141 rfl (λh7=>?_) (λh7=>?_));exact gP [.sq _,.bk _,.sq _] C9 4 [] (Ar _) (λ_=>Aa rfl (BZ rfl L3)<|gL [.sq _,.sq _,.bk _,.sq _] C9 8 [] (Ar _) (λ_=>W0<|gQ [.bk _,.sq _] C9 2 [] (Ar _) (λ_=>B1 (Cu rfl (Ak rfl) (Ak rfl))<|⟨.inr ⟨by rw[hm,Bi hc,Kt];have:=Na (s.drop (i+1)) (n*10+(c.toNat-48));have q4:=of_decide_eq_true h5;have q5:=of_decide_eq_false h6;have q6:=of_decide_eq_true h7;omega,rfl⟩,hX⟩)));refine gP [.sq _,.bk _,.sq _] C9 7 [] (Ar _) (λ_=>Aa rfl (D3 (m:=10) rfl mZ dC)<|Aa rfl (Q1 ((n:Int)*10) rfl rfl (HX ⟨oM,by have:=of_decide_eq_false h7;omega⟩))<|gL [.sq _,.bk _,.sq _] C9 7 [] (Ar _) (λ_=>Aa rfl (D3 (m:=(c.toNat:Int)-48) rfl UT (HX ⟨oM,oM⟩))<|Aa rfl (MV (((n:Int)*10+((c.toNat:Int)-48)) % 18446744073709551616) rfl rfl (IntKind.wrap_u64 _))<|gL [.sq _,.bk _,.sq _] C9 10 [] (Ar _) (λ_=>sL 155 rfl (λh8=>?_) (λh8=>?_))));exact gL [.sq _,.sq _,.bk _,.sq _] C9 10 [] (Ar _) (λ_=>Aa rfl (BZ rfl L3)<|gL [.sq _,.sq _,.bk _,.sq _] C9 8 [] (Ar _) (λ_=>W0<|gQ [.bk _,.sq _] C9 2 [] (Ar _) (λ_=>B1 (Cu rfl (Ak rfl) (Ak rfl))<|⟨.inr ⟨by rw[hm,Bi hc,Kt];have:=Na (s.drop (i+1)) (n*10+(c.toNat-48));have q5:=of_decide_eq_false h6;have q6:=of_decide_eq_false h7;have q7:=of_decide_eq_true h8;omega,rfl⟩,hX⟩)));refine gL [.sq _,.sq _,.bk _,.sq _] C9 6 [] (Ar _) (λ_=>sP 159 rfl (λh9=>?_) (λh9=>?_));exact gP [.sq _,.bk _,.sq _] C9 4 [] (Ar _) (λ_=>Aa rfl (BZ rfl L3)<|gL [.sq _,.sq _,.bk _,.sq _] C9 8 [] (Ar _) (λ_=>W0<|gQ [.bk _,.sq _] C9 2 [] (Ar _) (λ_=>B1 (Cu rfl (Ak rfl) (Ak rfl))<|⟨.inr ⟨by rw[hm,Bi hc,Kt];have:=Na (s.drop (i+1)) (n*10+(c.toNat-48));have q6:=of_decide_eq_false h7;have q7:=of_decide_eq_false h8;have q8:=of_decide_eq_true h9;omega,rfl⟩,hX⟩)));refine gP [.sq _,.bk _,.sq _] C9 13 [] (Ar _) (And.intro ⟨oM,oM⟩<|λ_=>?_);have hN:(((n:Int)*10+((c.toNat:Int)-48)) % 18446744073709551616)=((n*10+(c.toNat-48):Nat):Int):=by have h1:=of_decide_eq_false h7;have h2:=of_decide_eq_false h8;have h3:=of_decide_eq_false h9;omega
 refine HN (s.length-(i+1)) (pY 0 (S s) 1 (.int .i64 10) 8 (.bool (10==0)) 9 (S s) 10 (.int .u64 1844674407370955162) 11 (.int .u64 9223372036854775807) 12 (.bool false) 13 (.int .u64 ((n*10+(c.toNat-48):Nat):Int)) 99 (.slice (some ⟨bb,0,none⟩) s.length bc) 100 (.int .i64 (s.length:Int)) 101 (.int .i64 ((i+1:Nat):Int))) oM (uX rfl rfl rfl rfl rfl rfl rfl (by rw[← hN];rfl) rfl rfl rfl) ⟨i+1,n*10+(c.toNat-48),rfl,rfl,rfl,oM,by have h1:=of_decide_eq_false h7;have h2:=of_decide_eq_false h8;have h3:=of_decide_eq_false h9;omega,by rw[hm,Bi hc];rfl,hbb,hX⟩
 ·
  exfalso;have:=of_decide_eq_false h5;omega
 ·
  exfalso;have:=of_decide_eq_false h4;omega
 exact gP [.sq _] C9 3 [] (Ar _) (λ_=>Nq<|gQ [.bk _,.sq _] C9 24 [] (Ar _) (λ_=>B1 (Cu rfl (Ak rfl) (Ak rfl))<|⟨.inl ⟨by rw[hm,Ka (by have:=of_decide_eq_false h2;omega)];exact hn,by rw[hm,Ka (by have:=of_decide_eq_false h2;omega)];rfl⟩,hX⟩))
def tG:Eh:=⟨[],[],[],[],[],[],[],[]⟩
theorem CB:tG.Ok prog:=⟨tQ,tQ,tQ,tQ,tQ,tQ,tQ,tQ⟩
theorem vW:cP prog 228=true:=kR
theorem Q8(w:World)(s:lU)(hlen:s.length≤100000)(hne:(s==[])=false)(hd:∀c∈s,48≤c.toNat∧c.toNat≤57) :
  BC prog 128 #[S s,.int .i64 10,.int .i64 63] w λv w'=>((Da 0 s<4611686018427387904∧v=.tuple #[.int .i64 (Da 0 s:Int),.nilIface])∨(4611686018427387904≤Da 0 s∧∃z,v=.tuple #[.int .i64 z,.iface 228 (.int .i64 1)]))∧AY w w':=by
 obtain⟨c0,r0,hs0⟩:∃c r,s=c::r:=by
  cases s with
  |nil=>simp at hne
  |cons c r=>exact⟨c,r,rfl⟩
 have hX:=AY.refl w;refine enter func128 rfl rfl rfl<|gP [] CB 13 [] (Ar _) (λ_=>sP 13 rfl (λh1=>?_) (λh1=>?_))
 ·
  exfalso;rw[hne] at h1;contradiction
 refine gP [.sq _] CB 12 [] (Ar _) (λ_=>Aa rfl (DB (c:=c0) rfl rfl I5 dC (by rw[hs0];rfl))<|gL [.sq _,.sq _] CB 9 [] (Ar _) (λ_=>sP 17 rfl (λh2=>?_) (λh2=>?_)))
 ·
  exfalso;have h9:=hd c0 (hs0▸List.mem_cons_self);have:=(beq_iff_eq).1 h2;omega
 refine gP [.bk _,.sq _] CB 7 [] (Ar _) (λ_=>sP 21 rfl (λh3=>?_) (λh3=>?_))
 ·
  exfalso;have h9:=hd c0 (hs0▸List.mem_cons_self);have:=(beq_iff_eq).1 h3;omega
 refine gP [.bk _,.sq _] CB 14 [] (Ar _) (λ_=>A7 rfl (Aw Ys rfl rfl) (JK _ s hlen hne hd) ?_);rintro _ w1 ⟨(⟨hle,rfl⟩|⟨hgt,rfl⟩),hE1⟩;replace hX:=hX.trans hE1;have sz1:=hE1.size;refine gL [.sq _] CB 11 [] (Ar _) (λ_=>Aa rfl (I8 G6 rfl)<|gL [.sq _,.sq _] CB 23 [] (Ar _) (λ_=>Aa rfl (Gn (62) rfl rfl dC)<|Aa rfl (D3 (m:=62) rfl L5 dC)<|Aa rfl (K0 (4611686018427387904) rfl rfl dC dC)<|gL [.sq _] CB 15 [] (Ar _) (λ_=>sP 52 rfl (λh4=>?_) (λh4=>?_))));exact gP [.sq _] CB 4 [] (Ar _) (λ_=>Aa rfl (Gn (4611686018427387903) rfl rfl dC)<|Aa rfl (D3 (m:=4611686018427387903) rfl Mt dC)<|Aa rfl (BZ rfl L3)<|gL [.sq _,.sq _] CB 6 [] (Ar _) (λ_=>B1 (Cu rfl (Ak rfl) (Ak rfl))<|⟨.inr ⟨by have:=of_decide_eq_true h4;omega,_,rfl⟩,hX⟩));exact gP [.sq _] CB 20 [] (Ar _) (λ_=>Aa rfl (D3 (m:=(Da 0 s:Int)) rfl Mt (Ji ⟨oM,by have:=of_decide_eq_false h4;omega⟩))<|gL [.sq _] CB 20 [] (Ar _) (λ_=>B1 (Cu rfl (Ak rfl) (Ak rfl))<|⟨.inl ⟨by have:=of_decide_eq_false h4;omega,rfl⟩,hX⟩));replace hX:=hX.trans hE1;have sz2:=hE1.size;refine gL [.sq _] CB 11 [] (Ar _) (λ_=>Aa rfl (LN G6 rfl)<|gL [.sq _,.sq _] CB 2 [] (Ar _) (λ_=>BI rfl rfl rfl<|Aa rfl (BZ rfl L3)<|BI rfl rfl rfl<|Aa rfl (YP G6 vW rfl rfl)<|gL [.sq _,.sq _] CB 19 [] (Ar _) (λ_=>Aa rfl (Gn (62) rfl rfl dC)<|Aa rfl (D3 (m:=62) rfl L5 dC) ?_)));exact Aa rfl (K0 (4611686018427387904) rfl rfl dC dC)<|gL [.sq _] CB 19 [] (Ar _) (λ_=>Aa rfl (Gn (4611686018427387903) rfl rfl dC)<|Aa rfl (D3 (m:=4611686018427387903) rfl Mt dC)<|Aa rfl (BZ rfl L3)<|gL [.sq _,.sq _] CB 6 [] (Ar _) (λ_=>B1 (Cu rfl (Ak rfl) (Ak rfl))<|⟨.inr ⟨oM,_,rfl⟩,hX⟩))
theorem QJ(w:World)(r:lU)(hlen:(45::r).length≤100000)(hne:(r==[])=false)(hd:∀c∈r,48≤c.toNat∧c.toNat≤57) :
  BC prog 128 #[S (45::r),.int .i64 10,.int .i64 63] w λv w'=>((Da 0 r<4611686018427387905∧v=.tuple #[.int .i64 (-(Da 0 r:Int)),.nilIface])∨(4611686018427387905≤Da 0 r∧∃z,v=.tuple #[.int .i64 z,.iface 228 (.int .i64 1)]))∧AY w w':=by
 have hne2:((45::r:lU)==[])=false:=rfl;have hX:=AY.refl w;refine enter func128 rfl rfl rfl<|gP [] CB 13 [] (Ar _) (λ_=>sP 13 rfl (λh1=>?_) (λh1=>?_))
 ·
  exfalso;rw[hne2] at h1;contradiction
 refine gP [.sq _] CB 12 [] (Ar _) (λ_=>Aa rfl (DB (c:=45) rfl rfl I5 dC rfl)<|gL [.sq _,.sq _] CB 20 [] (Ar _) (λ_=>Aa rfl (M0 rfl rfl I5)<|gL [.sq _,.bk _,.sq _] CB 18 [] (Ar _) (λ_=>A7 rfl (Aw Ys rfl rfl) (JK _ r (by simp only[List.length_cons] at hlen;omega) hne hd) ?_)));rintro _ w1 ⟨(⟨hle,rfl⟩|⟨hgt,rfl⟩),hE1⟩;replace hX:=hX.trans hE1;have sz1:=hE1.size;refine gL [.sq _] CB 11 [] (Ar _) (λ_=>Aa rfl (I8 G6 rfl)<|gL [.sq _,.sq _] CB 23 [] (Ar _) (λ_=>Aa rfl (Gn (62) rfl rfl dC)<|Aa rfl (D3 (m:=62) rfl L5 dC)<|Aa rfl (K0 (4611686018427387904) rfl rfl dC dC)<|gL [.sq _] CB 29 [] (Ar _) (λ_=>sP 62 rfl (λh2=>?_) (λh2=>?_))));exact gP [.sq _] CB 4 [] (Ar _) (λ_=>Aa rfl (D3 (m:=4611686018427387904) rfl Mt dC)<|Aa rfl (Lx (-4611686018427387904) rfl dC)<|Aa rfl (BZ rfl L3)<|gL [.sq _,.sq _] CB 6 [] (Ar _) (λ_=>B1 (Cu rfl (Ak rfl) (Ak rfl))<|⟨.inr ⟨by have:=of_decide_eq_true h2;omega,_,rfl⟩,hX⟩));exact gP [.sq _] CB 6 [] (Ar _) (λ_=>Aa rfl (D3 (m:=(Da 0 r:Int)) rfl Mt (Ji ⟨oM,by have:=of_decide_eq_false h2;omega⟩))<|gL [.sq _] CB 12 [] (Ar _) (λ_=>Aa rfl (Lx (-(Da 0 r:Int)) rfl (by rw[Ji ⟨by omega,by have:=of_decide_eq_false h2;omega⟩];omega))<|gL [.sq _] CB 11 [] (Ar _) (λ_=>B1 (Cu rfl (Ak rfl) (Ak rfl))<|⟨.inl ⟨by have:=of_decide_eq_false h2;omega,rfl⟩,hX⟩)));replace hX:=hX.trans hE1;have sz2:=hE1.size;refine gL [.sq _] CB 11 [] (Ar _) (λ_=>Aa rfl (LN G6 rfl)<|gL [.sq _,.sq _] CB 2 [] (Ar _) (λ_=>BI rfl rfl rfl<|Aa rfl (BZ rfl L3)<|BI rfl rfl rfl<|Aa rfl (YP G6 vW rfl rfl)<|gL [.sq _,.sq _] CB 19 [] (Ar _) (λ_=>Aa rfl (Gn (62) rfl rfl dC)<|Aa rfl (D3 (m:=62) rfl L5 dC) ?_)));exact Aa rfl (K0 (4611686018427387904) rfl rfl dC dC)<|gL [.sq _] CB 33 [] (Ar _) (λ_=>Aa rfl (D3 (m:=4611686018427387904) rfl Mt dC)<|Aa rfl (Lx (-4611686018427387904) rfl dC)<|Aa rfl (BZ rfl L3)<|gL [.sq _,.sq _] CB 6 [] (Ar _) (λ_=>B1 (Cu rfl (Ak rfl) (Ak rfl))<|⟨.inr ⟨oM,_,rfl⟩,hX⟩))
end Go.Proofs.YtegedalegfadgaaGreatDoor
namespace Go.SP
open Go.SW Go.RowKit
theorem Im{α:Type}(p:α→Bool):∀(l:List α),l.dropWhile p=[]↔∀x∈l,p x=true
 | []=>by simp
 |a::l=>by
   have ih:=Im p l
   cases h:p a <;> simp[List.dropWhile,h,ih]
theorem JR{α:Type}(p:α→Bool):∀(l:List α)(a:α)(r:List α),l.dropWhile p=a::r→p a=false
 | [],_,_,h=>by simp at h
 |b::l,a,r,h=>by
   cases hb:p b with
   |true=>rw[List.dropWhile_cons_of_pos hb] at h;exact JR p l a r h
   |false=>rw[List.dropWhile_cons_of_neg (by simp[hb])] at h;cases h;exact hb
theorem Y7(s l:lU):HT s l=s.all (l.contains ·):=by
 have key:Lib.trimS s l=[]↔∀x∈s,l.contains x=true:=by
   unfold Lib.trimS Lib.trimLeftS Lib.trimRightS;rw[Im];constructor
   · intro h
     cases hd:s.reverse.dropWhile (l.contains ·) with
     |nil=>intro x hx;exact (Im _ _).1 hd x (by simpa using hx)
     |cons a r =>
       have h1:=JR _ _ _ _ hd;have h2:=h a (by rw[hd];simp);rw[h1] at h2;cases h2
   · intro h x hx
     exact h x (by have:=(List.dropWhile_suffix (l.contains ·) (l:=s.reverse)).subset (by simpa using hx);simpa using this)
 unfold HT
 cases h:s.all (l.contains ·) with
 |true=>rw[key.2 (by simpa using h)];rfl
 |false =>
   have:¬Lib.trimS s l=[]:=λe=>by
     have:=key.1 e;have h2:s.all (l.contains ·)=true:=by simpa using this
     rw[h] at h2;cases h2
   simp[this]
theorem Z6{c:UInt8}(h:G1.contains c=true):48≤c.toNat∧c.toNat≤57:=by
 simp only[G1,List.contains_cons,List.contains_nil,Bool.or_false,Bool.or_eq_true,beq_iff_eq] at h;rcases h with rfl|rfl|rfl|rfl|rfl|rfl|rfl|rfl|rfl|rfl <;> decide
theorem GY{s:lU}(h:ET s=true):(s==[])=false∧∀c∈s,48≤c.toNat∧c.toNat≤57:=by
 unfold ET at h;rw[Y7,Bool.and_eq_true] at h;exact⟨by simpa using h.1,λc hc=>Z6 (List.all_eq_true.1 h.2 c hc)⟩
theorem IT(r:lU):Bl (45::r)=r:=by
 simp[Bl,Lib.trimPrefix,Lib.hasPrefix,List.isPrefixOf]
theorem Ja{s:lU}(h:OO s=false):Bl s=s:=by
 unfold Bl Lib.trimPrefix
 cases s with
 |nil=>simp
 |cons c r =>
   have:c≠45:=by simpa[OO] using h
   simp[Lib.hasPrefix,List.isPrefixOf,this.symm]
theorem Pv{r:lU}(h:ET r=true):Iz (45::r)=if Da 0 r<4611686018427387905 then some (-(Da 0 r:Int)) else none:=by
 unfold Iz;rw[IT,h];simp[OO,Nat.lt_succ_iff]
theorem Ph{s:lU}(hn:OO s=false)(h:ET s=true):Iz s=if Da 0 s<4611686018427387904 then some (Da 0 s:Int) else none:=by
 unfold Iz;rw[Ja hn,h,hn];simp
theorem Lk(s:lU):OO s=false∨∃r,s=45::r:=by
 cases s with
 |nil=>exact .inl rfl
 |cons c r =>
   by_cases h:c=45
   · exact .inr ⟨r,by rw[h]⟩
   · left;simp[OO,h]
theorem FX(s:lU):(Bl s).length≤s.length:=by
 rcases Lk s with h|⟨r,rfl⟩
 · rw[Ja h];exact Nat.le_refl _
 · rw[IT];simp
end Go.SP
namespace Go.SP
theorem S9(s t:lU):(Lib.cut s t).1.length≤s.length:=by
 unfold Lib.cut
 split
 · simp only[List.length_take];exact Nat.min_le_right _ _
 · exact Nat.le_refl _
theorem RW(s t:lU):(Lib.cut s t).2.1.length≤s.length:=by
 unfold Lib.cut
 split
 · simp
 · simp
end Go.SP
namespace Go.SP
def sT(s:lU)(a b c d e f g:Bool):Option (Int×Int×lU):=if a||(b&&c) then none else if d&&e then some (6,0,s) else if f&&g then some (5,0,s) else none
theorem CK{s:lU}(hr:Iz s=none)(hf:Jg s=none):Ju s=sT s (decide ((40:Int)<s.length)) (!(Bl s==[])) (HT (Bl s) G1) (HT (s.take 1) F9) (HT s (F9++EG++G1)) (HT (s.take 1) (EG++G5)) (HT s (F9++EG++G1++G5)):=by
 rw[Ju,hr];simp only[hf];rfl
end Go.SP
namespace Go.SP
variable {j:Nat}
theorem Px{p:Ps}{src:lU}(h:¬j<src.length∨∃c,src[j]?=some c∧((c.toNat:Int) != 10)=false):K6 p (src.drop j)=(src.drop j,p):=by
 rcases h with h|⟨c,hc,h⟩
 · rw[List.drop_eq_nil_of_le (by omega)];rfl
 · rw[Bi hc,K6,if_neg (by rw[h];decide)]
theorem Wn{p:Ps}{src:lU}{c:UInt8}(hc:src[j]?=some c)(h:((c.toNat:Int) != 10)=true):K6 p (src.drop j)=K6 (adv c p) (src.drop (j+1)):=by
 rw[Bi hc,K6,if_pos h]
theorem NY{p:Ps}{src:lU}(h:¬j<src.length∨∃c,src[j]?=some c∧decide (Lib.indexByte Vm c<0)=false):DJ p (src.drop j)=([],src.drop j,p):=by
 rcases h with h|⟨c,hc,h⟩
 · rw[List.drop_eq_nil_of_le (by omega)];rfl
 · rw[Bi hc,DJ,if_neg (by rw[h];decide)]
theorem UF{p:Ps}{src:lU}{c:UInt8}(hc:src[j]?=some c)(h:decide (Lib.indexByte Vm c<0)=true) :
   DJ p (src.drop j)=(c::(DJ (adv c p) (src.drop (j+1))).1,(DJ (adv c p) (src.drop (j+1))).2):=by
 rw[Bi hc,DJ,if_pos h]
def Fl(src:lU)(i j:Nat):lU:=(src.take j).drop i
theorem Uj(src:lU)(i:Nat):Fl src i i=[]:=by
 unfold Fl;rw[List.drop_eq_nil_of_le (by simp;omega)]
theorem UB{src:lU}{i:Nat}{c:UInt8}(hij:i≤j)(hc:src[j]?=some c):Fl src i (j+1)=Fl src i j++[c]:=by
 obtain⟨hl,he⟩:=List.getElem?_eq_some_iff.1 hc;unfold Fl;rw[List.take_succ_eq_append_getElem hl,List.drop_append_of_le_length (by simp;omega),he]
theorem AX{src:lU}{i:Nat}{c:UInt8}(hij:i<j)(hc:src[i]?=some c):Fl src i j=c::Fl src (i+1) j:=by
 unfold Fl;have:(src.take j)[i]?=some c:=by rw[List.getElem?_take,if_pos hij,hc]
 exact Bi this
theorem Fk(src:lU)(i j:Nat):(Fl src i j).length≤src.length:=by
 unfold Fl;simp only[List.length_drop,List.length_take];omega
section
variable{F i:Nat}{p:Ps}{src:lU}{c:UInt8}
theorem CV(r:lU):CO F p (c::r) =
   (if decide ((0:Int)≤Lib.indexByte GV c) then .ok ([],r,adv c p)
   else if (c.toNat:Int)==59 then .ok ([],K6 (adv c p) r)
   else if (c.toNat:Int)==40 then .ok ([⟨0,p.1,p.2,0,[]⟩],r,adv c p)
   else if (c.toNat:Int)==41 then .ok ([⟨1,p.1,p.2,0,[]⟩],r,adv c p)
   else if (c.toNat:Int)==34 then (match F3 p F (adv c p) [] r with
     |.error e=>.error e
     |.ok (tx,r',p')=>.ok ([⟨4,p.1,p.2,0,tx⟩],r',p'))
   else (match Ju (c::(DJ (adv c p) r).1) with
     |none=>.error p
     |some (k,nm,tx)=>.ok ([⟨k,p.1,p.2,nm,tx⟩],(DJ (adv c p) r).2))):=rfl
theorem RV(hc:src[i]?=some c)(h1:decide ((0:Int)≤Lib.indexByte GV c)=true):CO F p (src.drop i)=.ok ([],src.drop (i+1),adv c p):=by rw[Bi hc,CV,if_pos h1]
theorem P9(hc:src[i]?=some c)(h1:decide ((0:Int)≤Lib.indexByte GV c)=false)(h2:((c.toNat:Int)==59)=true):CO F p (src.drop i)=.ok ([],K6 (adv c p) (src.drop (i+1))):=by
 rw[Bi hc,CV,if_neg (by rw[h1];decide),if_pos h2]
theorem RE(hc:src[i]?=some c)(h1:decide ((0:Int)≤Lib.indexByte GV c)=false)(h2:((c.toNat:Int)==59)=false)(h3:((c.toNat:Int)==40)=true):CO F p (src.drop i)=.ok ([⟨0,p.1,p.2,0,[]⟩],src.drop (i+1),adv c p):=by
 rw[Bi hc,CV,if_neg (by rw[h1];decide),if_neg (by rw[h2];decide),if_pos h3]
theorem RS(hc:src[i]?=some c)(h1:decide ((0:Int)≤Lib.indexByte GV c)=false)(h2:((c.toNat:Int)==59)=false)(h3:((c.toNat:Int)==40)=false)(h4:((c.toNat:Int)==41)=true):CO F p (src.drop i)=.ok ([⟨1,p.1,p.2,0,[]⟩],src.drop (i+1),adv c p):=by
 rw[Bi hc,CV,if_neg (by rw[h1];decide),if_neg (by rw[h2];decide),if_neg (by rw[h3];decide),if_pos h4]
theorem Iu(hc:src[i]?=some c)(h1:decide ((0:Int)≤Lib.indexByte GV c)=false)(h2:((c.toNat:Int)==59)=false)(h3:((c.toNat:Int)==40)=false)(h4:((c.toNat:Int)==41)=false)(h5:((c.toNat:Int)==34)=true) :
   CO F p (src.drop i)=(match F3 p F (adv c p) [] (src.drop (i+1)) with
     |.error e=>.error e
     |.ok (tx,r',p')=>.ok ([⟨4,p.1,p.2,0,tx⟩],r',p')):=by
 rw[Bi hc,CV,if_neg (by rw[h1];decide),if_neg (by rw[h2];decide),if_neg (by rw[h3];decide),if_neg (by rw[h4];decide),if_pos h5]
theorem BT(hc:src[i]?=some c)(h1:decide ((0:Int)≤Lib.indexByte GV c)=false)(h2:((c.toNat:Int)==59)=false)(h3:((c.toNat:Int)==40)=false)(h4:((c.toNat:Int)==41)=false)(h5:((c.toNat:Int)==34)=false) :
   CO F p (src.drop i)=(match Ju (c::(DJ (adv c p) (src.drop (i+1))).1) with
     |none=>.error p
     |some (k,nm,tx)=>.ok ([⟨k,p.1,p.2,nm,tx⟩],(DJ (adv c p) (src.drop (i+1))).2)):=by
 rw[Bi hc,CV,if_neg (by rw[h1];decide),if_neg (by rw[h2];decide),if_neg (by rw[h3];decide),if_neg (by rw[h4];decide),if_neg (by rw[h5];decide)]
end
end Go.SP
namespace Go.SP
theorem I1(F n:Nat)(p:Ps):El F n p []=.ok []:=by cases n <;> rfl
def UE(t:List AM):Except Ps (List AM)→Except Ps (List AM)
 |.error e=>.error e
 |.ok l=>.ok (t++l)
theorem Yf(x:Except Ps (List AM)):UE [] x=x:=by cases x <;> rfl
theorem Fc(F n:Nat)(p:Ps)(c:UInt8)(r:lU):El F (n+1) p (c::r)=(match CO F p (c::r) with
   |.error e=>.error e
   |.ok (t,r',p')=>match El F n p' r' with
     |.error e=>.error e
     |.ok l=>.ok (t++l)):=rfl
variable {ot toks:List AM}{j n:Nat}{p1:Ps}
theorem Wv{F:Nat}{q e:Ps}{src:lU}{c:UInt8}(hc:src[j]?=some c)(he:CO F q (src.drop j)=.error e):El F (n+1) q (src.drop j)=.error e:=by
 rw[Bi hc] at he ⊢;rw[Fc,he]
theorem TC{F:Nat}{q:Ps}{src r1:lU}{c:UInt8}{x:Except Ps (List AM)}(hc:src[j]?=some c)(hs:CO F q (src.drop j)=.ok (ot,r1,p1))
   (hm:x=UE toks (El F (n+1) q (src.drop j))):x=UE (toks++ot) (El F n p1 r1):=by
 rw[Bi hc] at hs hm;rw[hm,Fc,hs];simp only[]
 cases El F n p1 r1 with
 |error e=>rfl
 |ok l=>simp[UE]
theorem OR{F:Nat}{p:Ps}{l r:lU}(h:CO F p l=.ok (ot,r,p1)):ot.length≤1:=by
 cases l with
 |nil=>cases h
 |cons c r =>
   rw[CV] at h
   repeat' split at h
   all_goals first
     |(simp only[Except.ok.injEq,Prod.mk.injEq] at h;rw[← h.1];simp)
     |cases h
end Go.SP
namespace Go.Proofs.YtegedalegfadgaaGreatDoor
open Go.SW Go.SP Go.RowKit Go.Proofs.Tryz
def uS:Eh:=⟨[],[],[],[],[],[],[],[]⟩
theorem HY:uS.Ok prog:=⟨tQ,tQ,tQ,tQ,tQ,tQ,tQ,tQ⟩
theorem N9(w:World)(s:lU)(hlen:s.length≤100000)(hD:ET (Bl s)=true) :
  BC prog 128 #[S s,.int .i64 10,.int .i64 63] w λv w'=>((∃n,Iz s=some n∧v=.tuple #[.int .i64 n,.nilIface])∨(Iz s=none∧∃z,v=.tuple #[.int .i64 z,.iface 228 (.int .i64 1)]))∧AY w w':=by
 rcases Lk s with hn|⟨r,rfl⟩
 ·
  rw[Ja hn] at hD;obtain⟨h1,h2⟩:=GY hD;refine (Q8 w s hlen h1 h2).mono ?_;rintro v w' ⟨⟨hl,rfl⟩|⟨hg,z,rfl⟩,hE⟩
  · exact⟨.inl ⟨_,by rw[Ph hn hD,if_pos hl],rfl⟩,hE⟩
  · exact⟨.inr ⟨by rw[Ph hn hD,if_neg (by omega)],z,rfl⟩,hE⟩
 ·
  rw[IT] at hD;obtain⟨h1,h2⟩:=GY hD;refine (QJ w r hlen h1 h2).mono ?_;rintro v w' ⟨⟨hl,rfl⟩|⟨hg,z,rfl⟩,hE⟩
  · exact⟨.inl ⟨_,by rw[Pv hD,if_pos hl],rfl⟩,hE⟩
  · exact⟨.inr ⟨by rw[Pv hD,if_neg (by omega)],z,rfl⟩,hE⟩
theorem OI(w:World)(hG:Gl w)(s:lU)(hlen:s.length≤100000)(hD:ET (Bl s)=true) :
  BC prog 111 #[S s,.int .i64 10,.int .i64 63] w λv w'=>((∃n,Iz s=some n∧v=.tuple #[.int .i64 n,.nilIface])∨(Iz s=none∧∃z T u,v=.tuple #[.int .i64 z,.iface T u]))∧AY w w':=by
 have hX:=AY.refl w;refine enter func111 rfl rfl rfl<|gP [] HY 11 [] (Ar _) (λ_=>A7 rfl (Aw iW rfl rfl) (N9 _ s hlen hD) ?_);rintro _ w1 ⟨(⟨n,hr,rfl⟩|⟨hr,z,rfl⟩),hE1⟩;replace hX:=hX.trans hE1;have sz1:=hE1.size;exact gL [.sq _] HY 11 [] (Ar _) (λ_=>Aa rfl (I8 G6 rfl)<|gL [.sq _,.sq _] HY 13 [] (Ar _) (λ_=>B1 (Cu rfl (Ak rfl) (Ak rfl))<|⟨.inl ⟨n,hr,rfl⟩,hX⟩));replace hX:=hX.trans hE1;have sz2:=hE1.size;refine gL [.sq _] HY 11 [] (Ar _) (λ_=>Aa rfl (LN G6 rfl)<|gL [.sq _,.sq _] HY 10 [] (Ar _) (λ_=>A7 rfl (Aw iM rfl rfl) (PK _ (hG.ext hX) _ s _ _ hlen) ?_));rintro _ w2 ⟨⟨eT,eV,rfl⟩,hE2⟩;replace hX:=hX.trans hE2;have sz3:=hE2.size;exact gL [.sq _,.sq _] HY 6 [] (Ar _) (λ_=>B1 (Cu rfl (Ak rfl) (Ak rfl))<|⟨.inr ⟨hr,z,_,_,rfl⟩,hX⟩)
theorem Xm(w:World)(hG:Gl w)(s:lU)(hlen:s.length≤100000) :
  BC prog 86 #[S s] w λv w'=>((∃n,Iz s=some n∧v=.tuple #[.int .i64 n,.int .i64 0])∨(Iz s=none∧∃e:Int,(e==0)=false∧v=.tuple #[.int .i64 0,.int .i64 e]))∧AY w w':=by
 have hX:=AY.refl w;refine enter func86 rfl rfl rfl<|gP [] HY 10 [] (Ar _) (λ_=>A7 rfl (Aw XW rfl rfl) (GB _ s [45]) ?_);rintro _ w1 ⟨rfl,hE1⟩;replace hX:=hX.trans hE1;have sz1:=hE1.size;refine A7 rfl (Aw T7 rfl rfl) (JJ _ (Bl s) (by have:=FX s;omega)) ?_;rintro _ w2 ⟨rfl,hE2⟩;replace hX:=hX.trans hE2;have sz2:=hE2.size;refine gL [.sq _,.sq _] HY 3 [] (Ar _) (λ_=>sP 9 rfl (λh1=>?_) (λh1=>?_));replace h1:=Gg h1;exact gP [.sq _] HY 9 [] (Ar _) (λ_=>B1 (Cu rfl (Ak rfl) (Ak rfl))<|⟨.inr ⟨by rw[Iz,h1];rfl,2,dC,rfl⟩,hX⟩);replace h1:=Gs h1;refine gP [.sq _] HY 6 [] (Ar _) (λ_=>A7 rfl (Aw lW rfl rfl) (OI _ (hG.ext hX) s hlen h1) ?_);rintro _ w3 ⟨(⟨n,hr,rfl⟩|⟨hr,z,eT,eV,rfl⟩),hE3⟩;replace hX:=hX.trans hE3;have sz3:=hE3.size;exact gL [.sq _] HY 11 [] (Ar _) (λ_=>Aa rfl (I8 G6 rfl)<|gL [.sq _,.sq _] HY 13 [] (Ar _) (λ_=>B1 (Cu rfl (Ak rfl) (Ak rfl))<|⟨.inl ⟨n,hr,rfl⟩,hX⟩));replace hX:=hX.trans hE3;have sz4:=hE3.size;exact gL [.sq _] HY 11 [] (Ar _) (λ_=>Aa rfl (LN G6 rfl)<|gL [.sq _,.sq _] HY 11 [] (Ar _) (λ_=>B1 (Cu rfl (Ak rfl) (Ak rfl))<|⟨.inr ⟨hr,4,dC,rfl⟩,hX⟩))
def pU:Prop:=∀(w:World)(s a b:lU),Gl w→s.length≤100000→Ij s=some (a,b)→BC prog 113 #[S s,.int .i64 64] w λv w'=>v=.tuple #[.float .f64 (M5 (OO s) a b),.nilIface]∧AY w w'
def sQ:Eh:=⟨[],[],[9],[],[],[],[],[]⟩
theorem De:sQ.Ok prog:=⟨tQ,tQ,(And.intro I5 tQ),tQ,tQ,tQ,tQ,tQ⟩
theorem hO:Extern.findNext Tryz.f133=none:=kR
theorem nH:Extern.find Tryz.f133=some Extern.MathFloatBits.float64bits:=kR
theorem TL(w:World)(f:Nat) :
  BC prog 132 #[.float .f64 f] w λv w'=>v=.bool (!(Op.floatEq .f64 f f))∧AY w w':=by
 have hX:=AY.refl w;exact enter func132 rfl rfl rfl<|gP [] De 9 [] (Ar _) (λ_=>Aa rfl (mK rfl rfl)<|gL [.sq _] De 4 [] (Ar _) (λ_=>B1 (AJ rfl (Ak rfl))<|⟨rfl,hX⟩))
theorem bJ(w:World)(f:Nat) :
  BC prog 114 #[.float .f64 f] w λv w'=>v=.int .u64 ((if Op.floatEq .f64 f f then f else 9221120237041090560:Nat):Int)∧AY w w':=by
 have hX:=AY.refl w;refine enter func114 rfl rfl rfl<|gP [] De 9 [] (Ar _) (λ_=>A7 rfl (Aw lI rfl rfl) (TL _ f) ?_);rintro _ w1 ⟨rfl,hE1⟩;replace hX:=hX.trans hE1;have sz1:=hE1.size;refine gL [.sq _,.sq _] De 2 [] (Ar _) (λ_=>sP 4 rfl (λh1=>?_) (λh1=>?_));refine gP [.sq _] De 8 [] (Ar _) (λ_=>B1 (AJ rfl (Ak rfl))<|⟨?_,hX⟩);have hq:=h1;simp at hq;simp[hq];refine gP [.sq _] De 6 [] (Ar _) (λ_=>Aa rfl (Za func133 rfl rfl hO nH rfl rfl rfl)<|gL [.sq _] De 4 [] (Ar _) (λ_=>B1 (AJ rfl (Ak rfl))<|⟨?_,hX⟩));have hq:=h1;simp at hq;simp[hq]
theorem Nw(hPF:pU)(w:World)(hG:Gl w)(s:lU)(hlen:s.length≤100000) :
  BC prog 87 #[S s] w λv w'=>((∃x:Nat,Jg s=some x∧v=.tuple #[.int .u64 (x:Int),.int .i64 0])∨(Jg s=none∧∃e:Int,(e==0)=false∧v=.tuple #[.int .u64 0,.int .i64 e]))∧AY w w':=by
 have hcl1:=S9 (Bl s) [46];have hcl2:=RW (Bl s) [46];have hwl:=FX s;have hX:=AY.refl w;refine enter func87 rfl rfl rfl<|gP [] De 9 [] (Ar _) (λ_=>A7 rfl (Aw XW rfl rfl) (GB _ s [45]) ?_);rintro _ w1 ⟨rfl,hE1⟩;replace hX:=hX.trans hE1;have sz1:=hE1.size;refine A7 rfl (Aw jQ rfl rfl) (ZG _ (hG.ext hX) (Bl s) [46] (by have:=FX s;omega)) ?_;rintro _ w2 ⟨rfl,hE2⟩;replace hX:=hX.trans hE2;have sz2:=hE2.size;refine gL [.sq _] De 16 [] (Ar _) (λ_=>sL 19 rfl (λh1=>?_) (λh1=>?_));replace h1:=Gg h1;refine gL [.sq _,.bk _,.sq _] De 22 [] (Ar _) (λ_=>B1 (Cu rfl (Ak rfl) (Ak rfl))<|⟨.inr ⟨?_,2,dC,rfl⟩,hX⟩);rw[Jg,Ij,if_neg];simp[h1];replace h1:=Gs h1;refine gL [.sq _,.bk _,.sq _] De 1 [] (Ar _) (λ_=>BI rfl rfl rfl<|A7 rfl (Aw T7 rfl rfl) (JJ _ (Lib.cut (Bl s) [46]).1 (by have:=S9 (Bl s) [46];have:=FX s;omega)) ?_);rintro _ w3 ⟨rfl,hE3⟩;replace hX:=hX.trans hE3;have sz3:=hE3.size;refine gL [.sq _,.bk _,.sq _] De 3 [] (Ar _) (λ_=>sL 24 rfl (λh2=>?_) (λh2=>?_));replace h2:=Gg h2;refine gL [.sq _,.bk _,.sq _] De 17 [] (Ar _) (λ_=>B1 (Cu rfl (Ak rfl) (Ak rfl))<|⟨.inr ⟨?_,2,dC,rfl⟩,hX⟩);rw[Jg,Ij,if_neg];simp[h1,h2];replace h2:=Gs h2;refine gL [.sq _,.bk _,.sq _] De 1 [] (Ar _) (λ_=>BI rfl rfl rfl<|A7 rfl (Aw T7 rfl rfl) (JJ _ (Lib.cut (Bl s) [46]).2.1 (by have:=RW (Bl s) [46];have:=FX s;omega)) ?_);rintro _ w4 ⟨rfl,hE4⟩;replace hX:=hX.trans hE4;have sz4:=hE4.size;refine gL [.sq _,.bk _,.sq _] De 5 [] (Ar _) (λ_=>sP 16 rfl (λh3=>?_) (λh3=>?_));replace h3:=Gg h3;refine gP [.bk _,.sq _] De 10 [] (Ar _) (λ_=>B1 (Cu rfl (Ak rfl) (Ak rfl))<|⟨.inr ⟨?_,2,dC,rfl⟩,hX⟩);rw[Jg,Ij,if_neg];simp[h1,h2,h3];replace h3:=Gs h3;refine gP [.bk _,.sq _] De 12 [] (Ar _) (And.intro ⟨oM,oM⟩<|λ_=>sP 29 rfl (λh4=>?_) (λh4=>?_));refine gP [.bk _,.sq _] De 10 [] (Ar _) (λ_=>B1 (Cu rfl (Ak rfl) (Ak rfl))<|⟨.inr ⟨?_,4,dC,rfl⟩,hX⟩);rw[Jg,Ij,if_neg];have h9:=h4;simp at h9;simp[h1,h2,h3] <;> omega
 refine gP [.bk _,.sq _] De 5 [] (Ar _) (λ_=>?_)
 have hform:Ij s=some ((Lib.cut (Bl s) [46]).1,(Lib.cut (Bl s) [46]).2.1):=by
  unfold Ij;rw[if_pos];have h9:=h4;simp at h9;simp[h1,h2,h3] <;> omega
 refine gP [.sq _] De 2 [] (Ar _) (λ_=>A7 rfl (Aw kG rfl rfl) (hPF _ s _ _ (hG.ext hX) hlen hform) ?_);rintro _ w5 ⟨rfl,hE5⟩;replace hX:=hX.trans hE5;have sz5:=hE5.size;refine gL [.sq _] De 11 [] (Ar _) (λ_=>Aa rfl (I8 G6 rfl)<|gL [.sq _,.sq _] De 8 [] (Ar _) (λ_=>A7 rfl (Aw mW rfl rfl) (bJ _ _) ?_));rintro _ w6 ⟨rfl,hE6⟩;replace hX:=hX.trans hE6;have sz6:=hE6.size;exact gL [.sq _] De 5 [] (Ar _) (λ_=>B1 (Cu rfl (Ak rfl) (Ak rfl))<|⟨.inl ⟨_,by rw[Jg,hform],rfl⟩,hX⟩)
theorem TH(w:World)(x:Nat) :
  BC prog 88 #[.int .u64 (x:Int)] w λv w'=>v=S (NC x)∧AY w w':=by
 have hX:=AY.refl w;refine enter func88 rfl rfl rfl<|gP [] De 17 [] (Ar _) (λ_=>?_);refine Em (λk σ ds w'=>∃(j:Nat)(acc:lU)(ra:Option Addr)(rc:Nat),k=j∧ds=[]∧σ=(E3 0 (.int .u64 (x:Int)) 3 (.slice ra acc.length rc) 4 (.int .i64 (8*(j:Int)-8)))∧j≤8∧NC x=acc++OZ x j∧acc.length+j=8∧Co w' 5 1 ra rc acc.length (bC acc)∧(∀y,rb ra=some y→w.heap.size≤y)∧AY w w') 8 (E3 0 (.int .u64 (x:Int)) 3 (.slice none 0 0) 4 (.int .i64 (8*((8:Nat):Int)-8))) lE ⟨8,[],none,0,rfl,rfl,rfl,Nat.le_refl _,rfl,rfl,GU _ _ _,(λy hy=>by cases hy),hX⟩ ?_;rintro j _ _ wl ⟨_,acc,ra,rc,rfl,rfl,rfl,hj,hm,hal,hrow,hlow,hX⟩;have szl:=hX.size;have hlowl:∀y,rb ra=some y→y<wl.heap.size:=λy hy=>hrow.lt hy;refine gP [] De 7 [] (Ar _) (λ_=>sP 6 rfl (λh1=>?_) (λh1=>?_));refine gP [.sq _] De 9 [] (Ar _) (λ_=>?_);obtain⟨j,rfl⟩:∃j1,j=j1+1:=⟨j-1,by have:=of_decide_eq_true h1;omega⟩;refine Aa rfl (V4 ((x / 2 ^ (8*j):Nat):Int) rfl rfl oM (by rw[show (8*((j+1:Nat):Int)-8).toNat=8*j by omega,show min (8*j) IntKind.u64.bits=8*j by simp[IntKind.bits];omega];exact Sh _ _))<|Aa rfl (D3 (m:=((UInt8.ofNat (x / 2 ^ (8*j))).toNat:Int)) rfl aR (lZ _))<|Cn rfl rfl PA tN rfl rfl rfl rfl rfl λb1 w1 hb1 hE1 hs1 hz1=>?_;replace hrow:=hrow.ext hE1;replace hX:=hX.trans hE1;refine Bg rfl YK rfl rfl rfl rfl hrow hb1 rfl rfl oM oM λra2 rc2 w2 hr2 hG=>?_;have hlow2:∀y,rb ra2=some y→w.heap.size≤y:=Cf hG hlow oM;replace hX:=hX.grow hG hlow;refine gL [.bk _,.sq _] De 9 [] (Ar _) (And.intro ⟨oM,oM⟩<|λ_=>?_);have hl2:acc.length+1=(acc++[UInt8.ofNat (x / 2 ^ (8*j))]).length:=by simp
 refine HN j (E3 0 (.int .u64 (x:Int)) 3 (.slice ra2 (acc++[UInt8.ofNat (x / 2 ^ (8*j))]).length rc2) 4 (.int .i64 (8*(j:Int)-8))) oM (wH rfl (hl2▸rfl) (congrArg (λz:Int=>some (Value.int .i64 z)) (show (8*((j+1:Nat):Int)-8)-8=8*(j:Int)-8 by omega))) ⟨j,acc++[UInt8.ofNat (x / 2 ^ (8*j))],ra2,rc2,rfl,rfl,rfl,oM,by rw[hm];simp[OZ],by rw[← hl2];omega,by rw[← hl2,bC_app];exact hr2,hlow2,hX⟩;refine gP [.sq _] De 3 [] (Ar _) (λ_=>Nq<|gQ [.bk _,.sq _] De 5 [] (Ar _) (λ_=>Aa rfl (XM rfl Sd hrow)<|gL [.sq _] De 4 [] (Ar _) (λ_=>B1 (AJ rfl (Ak rfl)) ?_)));have hj0:j=0:=by have:=of_decide_eq_false h1;omega
 subst hj0;exact⟨by rw[hm];simp[OZ],hX⟩
def uE:Eh:=⟨[],[],[9],[],[(26,true,2)],[(80,[.int .i64 0,.int .i64 0,.int .i64 0,.int .i64 0,.string ⟨#[]⟩]),(75,[.int .i64 0,.int .i64 0])],[(80,[(0,1),(1,2),(3,1),(4,1)]),(75,[(0,2)])],[]⟩
theorem Bu:uE.Ok prog:=⟨tQ,tQ,(And.intro I5 tQ),tQ,(And.intro Hp tQ),(And.intro Gb (And.intro eB tQ)),(And.intro WQ (And.intro iK tQ)),tQ⟩
theorem Fm(hPF:pU)(w:World)(hG:Gl w)(s:lU)(hlen:s.length≤100000)(hne:s≠[])(at1:Ps) :
  BS prog 62 #[S s,.agg #[.int .i64 at1.1,.int .i64 at1.2]] w (λv w'=>∃k nm tx,Ju s=some (k,nm,tx)∧v=.agg #[.int .i64 k,.int .i64 at1.1,.int .i64 at1.2,.int .i64 nm,S tx]∧AY w w') (λc w'=>Ju s=none∧c=Rc 75 at1∧AY w w'):=by
 have hne1:(1:Int)≤s.length:=by
  cases s with
  |nil=>exact absurd rfl hne
  |cons a r=>simp only[List.length_cons];omega
 have hX:=AY.refl w;refine IY func62 rfl rfl rfl<|gP [] Bu 2 [] (Ar _) (λ_=>Ew rfl rfl rfl λb1 w1 hb1 hE1 hs1 hz1=>?_);replace hX:=hX.trans hE1;refine CT rfl Gb λb2 w2 hb2 hE2 hs2 hz2=>?_;replace hb1:=hb1.ext hE2;replace hX:=hX.trans hE2;refine gL [.sq _] Bu 6 [] (Ar _) (λ_=>A7 rfl (Aw rS rfl rfl) (Xm _ (hG.ext hX) s hlen) ?_);rintro _ w3 ⟨(⟨n,hr,rfl⟩|⟨hr,er,her,rfl⟩),hE3⟩;replace hb1:=hb1.ext hE3;replace hb2:=hb2.ext hE3;replace hX:=hX.trans hE3;have sz1:=hE3.size;refine gL [.sq _,.sq _] Bu 19 [0,0] (kB hb1 (Ar _)) (y2<|λ_=>A4 rfl rfl rfl Hw rfl hb2 rfl rfl λw4 hb3 hC1=>?_);replace hb1:=hb1.chg hC1 oM;replace hX:=hX.chg hC1 oM;have sz2:=hC1.size;exact gL [.sq _,.sq _] Bu 4 [] (Ar _) (λ_=>B1 (AJ rfl (Ac rfl Hw hb3 rfl))<|⟨2,n,[],by rw[Ju,hr],rfl,hX⟩);replace hb1:=hb1.ext hE3;replace hb2:=hb2.ext hE3;replace hX:=hX.trans hE3;have sz3:=hE3.size;refine gL [.sq _,.sq _] Bu 13 [] (Ar _) (λ_=>kP 16 false rfl her<|gP [.sq _] Bu 7 [] (Ar _) (λ_=>A7 rfl (Aw qE rfl rfl) (Nw hPF _ (hG.ext hX) s hlen) ?_));rintro _ w5 ⟨(⟨x,hf,rfl⟩|⟨hf,ef,hef,rfl⟩),hE4⟩;replace hb1:=hb1.ext hE4;replace hb2:=hb2.ext hE4;replace hX:=hX.trans hE4;have sz4:=hE4.size;refine gL [.sq _,.sq _] Bu 15 [] (Ar _) (λ_=>?_);have hr1:=hb1;refine Ei mixed (A8 w5 [b1]) [(true,0),(true,1),(false,2),(true,3),(false,4)] kR kR rfl rfl λw6 hE5 hz3=>?_;have hKp:A8 w5 [b1] w6:=A8.cons hr1 hE5 (A8.nil _ _);refine⟨hKp,?_⟩;replace hb1:=hb1.ext hE5;replace hb2:=hb2.ext hE5;replace hX:=hX.trans hE5;refine A3 rfl (λ_ hS=>D0 rfl Hp (hr1.keep hS (.head _)) rfl)<|A3 rfl (λ_ hS=>A1 rfl)<|Fa<|A7 rfl (Aw oI rfl rfl) (TH _ x) ?_;rintro _ w7 ⟨rfl,hE6⟩;replace hb1:=hb1.ext hE6;replace hb2:=hb2.ext hE6;replace hX:=hX.trans hE6;replace hKp:=hKp.ext hE6;have sz5:=hE6.size;refine Ab (H5 hKp<|A3 rfl (λ_ hS=>DV rfl WQ Gb rfl)<|Fa<|A4 rfl rfl rfl Hw rfl hb2 rfl rfl λw8 hb4 hC2=>?_);replace hb1:=hb1.chg hC2 oM;replace hX:=hX.chg hC2 oM;replace hKp:=hKp.chg hC2 nM;have sz6:=hC2.size;exact Ab (H5 hKp<|Ex<|gQ [.sq _,.sq _] Bu 3 [] (Ar _) (λ_=>B1 (AJ rfl (Ac rfl Hw hb4 rfl))<|⟨3,0,NC x,by rw[Ju,hr];simp only[hf],rfl,hX⟩));replace hb1:=hb1.ext hE4;replace hb2:=hb2.ext hE4;replace hX:=hX.trans hE4;have sz7:=hE4.size;refine gL [.sq _,.sq _] Bu 13 [] (Ar _) (λ_=>kP 26 false rfl hef<|gP [.sq _] Bu 6 [] (Ar _) (λ_=>A7 rfl (Aw XW rfl rfl) (GB _ s [45]) ?_));rintro _ w9 ⟨rfl,hE7⟩;replace hb1:=hb1.ext hE7;replace hb2:=hb2.ext hE7;replace hX:=hX.trans hE7;have sz8:=hE7.size;refine gL [.sq _] Bu 11 [] (Ar _) (λ_=>sL 37 rfl (λh1=>?_) (λh1=>?_));exact gL [.sq _,.bk _,.sq _] Bu 17 [0,0] (kB hb1 (Ar _)) (y2<|λ_=>Aa rfl (BZ rfl J4)<|Cr (BN rfl) (And.intro rfl<|⟨by rw[CK hr hf,h1];rfl,rfl,hX⟩));refine gL [.sq _,.bk _,.sq _] Bu 3 [] (Ar _) (λ_=>sL 40 rfl (λh2=>?_) (λh2=>?_));refine gL [.sq _,.bk _,.sq _] Bu 1 [] (Ar _) (λ_=>BI rfl rfl rfl<|A7 rfl (Aw Ir rfl rfl) (CU _ (Bl s) (by have:=FX s;omega) G1 dC dC) ?_);rintro _ w10 ⟨rfl,hE8⟩;replace hb1:=hb1.ext hE8
 replace hb2:=hb2.ext hE8;replace hX:=hX.trans hE8;have sz9:=hE8.size;refine gL [.sq _,.bk _,.sq _] Bu 5 [] (Ar _) (λ_=>sP 33 rfl (λh3=>?_) (λh3=>?_));refine gP [.bk _,.sq _] Bu 7 [0,0] (kB hb1 (Ar _)) (y2<|λ_=>Aa rfl (BZ rfl J4)<|Cr (BN rfl) (And.intro rfl ?_));have hw9:(!(Bl s==[]))=true:=h2;exact⟨by rw[CK hr hf,h1,hw9,h3];rfl,rfl,hX⟩;refine gP [.bk _,.sq _] Bu 4 [] (Ar _) (λ_=>Aa rfl (IB rfl rfl I5 ⟨dC,hne1⟩)<|A7 rfl (Aw Ir rfl rfl) (CU _ (s.take 1) (by simp only[List.length_take];omega) F9 dC dC) ?_);rintro _ w11 ⟨rfl,hE9⟩;replace hb1:=hb1.ext hE9;replace hb2:=hb2.ext hE9;replace hX:=hX.trans hE9;have sz10:=hE9.size;refine Aa rfl (A1 rfl)<|sL 49 rfl (λh4=>?_) (λh4=>?_);refine gL [.sq _,.bk _,.sq _] Bu 1 [] (Ar _) (λ_=>BI rfl rfl rfl<|A7 rfl (Aw Ir rfl rfl) (CU _ (s) oM (F9++EG++G1) dC dC) ?_);rintro _ w12 ⟨rfl,hE10⟩;replace hb1:=hb1.ext hE10;replace hb2:=hb2.ext hE10;replace hX:=hX.trans hE10;have sz11:=hE10.size;refine gL [.sq _,.bk _,.sq _] Bu 4 [] (Ar _) (λ_=>sP 45 rfl (λh5=>?_) (λh5=>?_));refine gP [.bk _,.sq _] Bu 6 [0,0] (kB hb1 (Ar _)) (y2<|λ_=>A4 rfl rfl rfl Hw rfl hb2 rfl rfl λw13 hb5 hC3=>?_);replace hb1:=hb1.chg hC3 oM;replace hX:=hX.chg hC3 oM;have sz12:=hC3.size;refine gL [.sq _,.bk _,.sq _] Bu 5 [] (Ar _) (λ_=>B1 (AJ rfl (Ac rfl Hw hb5 rfl)) ?_);have hw9:(!(Bl s==[]))=true:=h2;exact⟨6,0,s,by rw[CK hr hf,h1,hw9,h3,h4,h5];rfl,rfl,hX⟩;refine gP [.bk _,.sq _] Bu 4 [] (Ar _) (λ_=>Aa rfl (IB rfl rfl I5 ⟨dC,hne1⟩)<|A7 rfl (Aw Ir rfl rfl) (CU _ (s.take 1) (by simp only[List.length_take];omega) (EG++G5) dC dC) ?_);rintro _ w14 ⟨rfl,hE11⟩;replace hb1:=hb1.ext hE11;replace hb2:=hb2.ext hE11;replace hX:=hX.trans hE11;have sz13:=hE11.size;refine Aa rfl (A1 rfl)<|sL 60 rfl (λh6=>?_) (λh6=>?_);refine gL [.sq _,.bk _,.sq _] Bu 1 [] (Ar _) (λ_=>BI rfl rfl rfl<|A7 rfl (Aw Ir rfl rfl) (CU _ (s) oM (F9++EG++G1++G5) dC dC) ?_);rintro _ w15 ⟨rfl,hE12⟩;replace hb1:=hb1.ext hE12;replace hb2:=hb2.ext hE12;replace hX:=hX.trans hE12;have sz14:=hE12.size;refine gL [.sq _,.bk _,.sq _] Bu 4 [] (Ar _) (λ_=>sP 56 rfl (λh7=>?_) (λh7=>?_));refine gP [.bk _,.sq _] Bu 6 [0,0] (kB hb1 (Ar _)) (y2<|λ_=>A4 rfl rfl rfl Hw rfl hb2 rfl rfl λw16 hb6 hC4=>?_);replace hb1:=hb1.chg hC4 oM;replace hX:=hX.chg hC4 oM;have sz15:=hC4.size;refine gL [.sq _,.bk _,.sq _] Bu 5 [] (Ar _) (λ_=>B1 (AJ rfl (Ac rfl Hw hb6 rfl)) ?_);have hw9:(!(Bl s==[]))=true:=h2;exact⟨5,0,s,by rw[CK hr hf,h1,hw9,h3,h4,h5,h6,h7];rfl,rfl,hX⟩;refine gP [.bk _,.sq _] Bu 7 [0,0] (kB hb1 (Ar _)) (y2<|λ_=>Aa rfl (BZ rfl J4)<|Cr (BN rfl) (And.intro rfl ?_));have hw9:(!(Bl s==[]))=true:=h2;exact⟨by rw[CK hr hf,h1,hw9,h3,h4,h5,h6,h7];rfl,rfl,hX⟩;refine gL [.sq _,.bk _,.sq _] Bu 13 [0,0] (kB hb1 (Ar _)) (y2<|λ_=>Aa rfl (BZ rfl J4)<|Cr (BN rfl) (And.intro rfl ?_));have hw9:(!(Bl s==[]))=true:=h2;exact⟨by rw[CK hr hf,h1,hw9,h3,h4,h5,h6];rfl,rfl,hX⟩
 refine gL [.sq _,.bk _,.sq _] Bu 10 [] (Ar _) (λ_=>Aa rfl (IB rfl rfl I5 ⟨dC,hne1⟩)<|A7 rfl (Aw Ir rfl rfl) (CU _ (s.take 1) (by simp only[List.length_take];omega) (EG++G5) dC dC) ?_);rintro _ w17 ⟨rfl,hE13⟩;replace hb1:=hb1.ext hE13;replace hb2:=hb2.ext hE13;replace hX:=hX.trans hE13;have sz16:=hE13.size;refine Aa rfl (A1 rfl)<|sL 60 rfl (λh8=>?_) (λh8=>?_);refine gL [.sq _,.bk _,.sq _] Bu 1 [] (Ar _) (λ_=>BI rfl rfl rfl<|A7 rfl (Aw Ir rfl rfl) (CU _ (s) oM (F9++EG++G1++G5) dC dC) ?_);rintro _ w18 ⟨rfl,hE14⟩;replace hb1:=hb1.ext hE14;replace hb2:=hb2.ext hE14;replace hX:=hX.trans hE14;have sz17:=hE14.size;refine gL [.sq _,.bk _,.sq _] Bu 4 [] (Ar _) (λ_=>sP 56 rfl (λh9=>?_) (λh9=>?_));refine gP [.bk _,.sq _] Bu 6 [0,0] (kB hb1 (Ar _)) (y2<|λ_=>A4 rfl rfl rfl Hw rfl hb2 rfl rfl λw19 hb7 hC5=>?_);replace hb1:=hb1.chg hC5 oM;replace hX:=hX.chg hC5 oM;have sz18:=hC5.size;refine gL [.sq _,.bk _,.sq _] Bu 5 [] (Ar _) (λ_=>B1 (AJ rfl (Ac rfl Hw hb7 rfl)) ?_);have hw9:(!(Bl s==[]))=true:=h2;exact⟨5,0,s,by rw[CK hr hf,h1,hw9,h3,h4,h8,h9];rfl,rfl,hX⟩;refine gP [.bk _,.sq _] Bu 7 [0,0] (kB hb1 (Ar _)) (y2<|λ_=>Aa rfl (BZ rfl J4)<|Cr (BN rfl) (And.intro rfl ?_));have hw9:(!(Bl s==[]))=true:=h2;exact⟨by rw[CK hr hf,h1,hw9,h3,h4,h8,h9];rfl,rfl,hX⟩;refine gL [.sq _,.bk _,.sq _] Bu 13 [0,0] (kB hb1 (Ar _)) (y2<|λ_=>Aa rfl (BZ rfl J4)<|Cr (BN rfl) (And.intro rfl ?_));have hw9:(!(Bl s==[]))=true:=h2;exact⟨by rw[CK hr hf,h1,hw9,h3,h4,h8];rfl,rfl,hX⟩;refine gL [.sq _,.bk _,.sq _] Bu 11 [] (Ar _) (λ_=>Aa rfl (IB rfl rfl I5 ⟨dC,hne1⟩)<|A7 rfl (Aw Ir rfl rfl) (CU _ (s.take 1) (by simp only[List.length_take];omega) F9 dC dC) ?_);rintro _ w20 ⟨rfl,hE15⟩;replace hb1:=hb1.ext hE15;replace hb2:=hb2.ext hE15;replace hX:=hX.trans hE15;have sz19:=hE15.size;refine Aa rfl (A1 rfl)<|sL 49 rfl (λh10=>?_) (λh10=>?_);refine gL [.sq _,.bk _,.sq _] Bu 1 [] (Ar _) (λ_=>BI rfl rfl rfl<|A7 rfl (Aw Ir rfl rfl) (CU _ (s) oM (F9++EG++G1) dC dC) ?_);rintro _ w21 ⟨rfl,hE16⟩;replace hb1:=hb1.ext hE16;replace hb2:=hb2.ext hE16;replace hX:=hX.trans hE16;have sz20:=hE16.size;refine gL [.sq _,.bk _,.sq _] Bu 4 [] (Ar _) (λ_=>sP 45 rfl (λh11=>?_) (λh11=>?_));refine gP [.bk _,.sq _] Bu 6 [0,0] (kB hb1 (Ar _)) (y2<|λ_=>A4 rfl rfl rfl Hw rfl hb2 rfl rfl λw22 hb8 hC6=>?_);replace hb1:=hb1.chg hC6 oM;replace hX:=hX.chg hC6 oM;have sz21:=hC6.size;refine gL [.sq _,.bk _,.sq _] Bu 5 [] (Ar _) (λ_=>B1 (AJ rfl (Ac rfl Hw hb8 rfl)) ?_);have hw9:(!(Bl s==[]))=false:=h2;exact⟨6,0,s,by rw[CK hr hf,h1,hw9,h10,h11];rfl,rfl,hX⟩;refine gP [.bk _,.sq _] Bu 4 [] (Ar _) (λ_=>Aa rfl (IB rfl rfl I5 ⟨dC,hne1⟩)<|A7 rfl (Aw Ir rfl rfl) (CU _ (s.take 1) (by simp only[List.length_take];omega) (EG++G5) dC dC) ?_);rintro _ w23 ⟨rfl,hE17⟩;replace hb1:=hb1.ext hE17;replace hb2:=hb2.ext hE17;replace hX:=hX.trans hE17;have sz22:=hE17.size;refine Aa rfl (A1 rfl)<|sL 60 rfl (λh12=>?_) (λh12=>?_)
 refine gL [.sq _,.bk _,.sq _] Bu 1 [] (Ar _) (λ_=>BI rfl rfl rfl<|A7 rfl (Aw Ir rfl rfl) (CU _ (s) oM (F9++EG++G1++G5) dC dC) ?_);rintro _ w24 ⟨rfl,hE18⟩;replace hb1:=hb1.ext hE18;replace hb2:=hb2.ext hE18;replace hX:=hX.trans hE18;have sz23:=hE18.size;refine gL [.sq _,.bk _,.sq _] Bu 4 [] (Ar _) (λ_=>sP 56 rfl (λh13=>?_) (λh13=>?_));refine gP [.bk _,.sq _] Bu 6 [0,0] (kB hb1 (Ar _)) (y2<|λ_=>A4 rfl rfl rfl Hw rfl hb2 rfl rfl λw25 hb9 hC7=>?_);replace hb1:=hb1.chg hC7 oM;replace hX:=hX.chg hC7 oM;have sz24:=hC7.size;refine gL [.sq _,.bk _,.sq _] Bu 5 [] (Ar _) (λ_=>B1 (AJ rfl (Ac rfl Hw hb9 rfl)) ?_);have hw9:(!(Bl s==[]))=false:=h2;exact⟨5,0,s,by rw[CK hr hf,h1,hw9,h10,h11,h12,h13];rfl,rfl,hX⟩;refine gP [.bk _,.sq _] Bu 7 [0,0] (kB hb1 (Ar _)) (y2<|λ_=>Aa rfl (BZ rfl J4)<|Cr (BN rfl) (And.intro rfl ?_));have hw9:(!(Bl s==[]))=false:=h2;exact⟨by rw[CK hr hf,h1,hw9,h10,h11,h12,h13];rfl,rfl,hX⟩;refine gL [.sq _,.bk _,.sq _] Bu 13 [0,0] (kB hb1 (Ar _)) (y2<|λ_=>Aa rfl (BZ rfl J4)<|Cr (BN rfl) (And.intro rfl ?_));have hw9:(!(Bl s==[]))=false:=h2;exact⟨by rw[CK hr hf,h1,hw9,h10,h11,h12];rfl,rfl,hX⟩;refine gL [.sq _,.bk _,.sq _] Bu 10 [] (Ar _) (λ_=>Aa rfl (IB rfl rfl I5 ⟨dC,hne1⟩)<|A7 rfl (Aw Ir rfl rfl) (CU _ (s.take 1) (by simp only[List.length_take];omega) (EG++G5) dC dC) ?_);rintro _ w26 ⟨rfl,hE19⟩;replace hb1:=hb1.ext hE19;replace hb2:=hb2.ext hE19;replace hX:=hX.trans hE19;have sz25:=hE19.size;refine Aa rfl (A1 rfl)<|sL 60 rfl (λh14=>?_) (λh14=>?_);refine gL [.sq _,.bk _,.sq _] Bu 1 [] (Ar _) (λ_=>BI rfl rfl rfl<|A7 rfl (Aw Ir rfl rfl) (CU _ (s) oM (F9++EG++G1++G5) dC dC) ?_);rintro _ w27 ⟨rfl,hE20⟩;replace hb1:=hb1.ext hE20;replace hb2:=hb2.ext hE20;replace hX:=hX.trans hE20;have sz26:=hE20.size;refine gL [.sq _,.bk _,.sq _] Bu 4 [] (Ar _) (λ_=>sP 56 rfl (λh15=>?_) (λh15=>?_));refine gP [.bk _,.sq _] Bu 6 [0,0] (kB hb1 (Ar _)) (y2<|λ_=>A4 rfl rfl rfl Hw rfl hb2 rfl rfl λw28 hb10 hC8=>?_);replace hb1:=hb1.chg hC8 oM;replace hX:=hX.chg hC8 oM;have sz27:=hC8.size;refine gL [.sq _,.bk _,.sq _] Bu 5 [] (Ar _) (λ_=>B1 (AJ rfl (Ac rfl Hw hb10 rfl)) ?_);have hw9:(!(Bl s==[]))=false:=h2;exact⟨5,0,s,by rw[CK hr hf,h1,hw9,h10,h14,h15];rfl,rfl,hX⟩;refine gP [.bk _,.sq _] Bu 7 [0,0] (kB hb1 (Ar _)) (y2<|λ_=>Aa rfl (BZ rfl J4)<|Cr (BN rfl) (And.intro rfl ?_));have hw9:(!(Bl s==[]))=false:=h2;exact⟨by rw[CK hr hf,h1,hw9,h10,h14,h15];rfl,rfl,hX⟩;refine gL [.sq _,.bk _,.sq _] Bu 13 [0,0] (kB hb1 (Ar _)) (y2<|λ_=>Aa rfl (BZ rfl J4)<|Cr (BN rfl) (And.intro rfl ?_));have hw9:(!(Bl s==[]))=false:=h2;exact⟨by rw[CK hr hf,h1,hw9,h10,h14];rfl,rfl,hX⟩
def tL:Eh:=⟨[],[],[],[],[(38,false,1),(9,false,1),(3,false,1)],[],[],[]⟩
theorem EL:tL.Ok prog:=⟨tQ,tQ,tQ,tQ,(And.intro DG (And.intro UA (And.intro Qs tQ))),tQ,tQ,tQ⟩
theorem Xp(hPF:pU)(w0 w:World)(hG:Gl w0)(hX0:AY w0 w)(b:Nat)(hb0:w0.heap.size≤b)(src:lU)(i:Nat)(p:Ps)(toks:List AM)(ta:Option Addr)(tc:Nat)(hsc:AT w b [S src,.int .i64 ((i:Nat):Int),.int .i64 p.1,.int .i64 p.2,(.slice ta toks.length tc)] 78)(hrow:Co w 80 5 ta tc toks.length (F8 toks))(hlow:∀x,rb ta=some x→w0.heap.size≤x∧x≠b)(c:UInt8)(hc:src[i]?=some c)(hp:Pk i p)(hlen:src.length≤65536)(htl:toks.length≤i) :
  BS prog 28 #[.pointer (some ⟨b,0,none⟩)] w (λv w'=>∃(ot:List AM)(i1:Nat)(p1:Ps)(ta1:Option Addr)(QY:Nat),CO (src.length+1) p (src.drop i)=.ok (ot,src.drop i1,p1)∧v=.tuple #[]∧AT w' b [S src,.int .i64 ((i1:Nat):Int),.int .i64 p1.1,.int .i64 p1.2,(.slice ta1 (toks++ot).length QY)] 78∧Co w' 80 5 ta1 QY (toks++ot).length (F8 (toks++ot))∧(∀x,rb ta1=some x→w0.heap.size≤x∧x≠b)∧AY w0 w'∧i<i1∧i1≤src.length∧Pk i1 p1) (λcc w'=>∃e,CO (src.length+1) p (src.drop i)=.error e∧cc=Rc 75 e∧AY w0 w'):=by
 have hbl:=hsc.lt;have hilt:=Cp hc;have hlowl:∀x,rb ta=some x→x<w.heap.size:=λx hx=>hrow.lt hx;have hX:=hX0;refine IY func28 rfl rfl rfl<|Cg ?_;have hr1:=hsc;refine Ei mixed (A8 w [b]) [(true,0),(true,1),(true,2),(true,3),(true,4),(true,5),(true,6),(true,7),(false,8),(false,9),(true,10)] kR kR rfl rfl λw1 hE1 hz1=>?_;have hKp:A8 w [b] w1:=A8.cons hr1 hE1 (A8.nil _ _);refine⟨hKp,?_⟩;replace hsc:=hsc.ext hE1;replace hrow:=hrow.ext hE1;replace hX:=hX.trans hE1;refine A3 rfl (λ_ hS=>A1 rfl)<|A3 rfl (λ_ hS=>B8 rfl)<|A3 rfl (λ_ hS=>BO rfl Nc)<|A3 rfl (λ_ hS=>D0 rfl Hp (hr1.keep hS (.head _)) rfl)<|A3 rfl (λ_ hS=>A1 rfl)<|A3 rfl (λ_ hS=>B8 rfl)<|A3 rfl (λ_ hS=>BO rfl HG)<|A3 rfl (λ_ hS=>Al rfl Qs (hr1.keep hS (.head _)) rfl)<|Fa<|CT rfl Ri λb1 w2 hb1 hE2 hs1 hz2=>?_;replace hsc:=hsc.ext hE2;replace hrow:=hrow.ext hE2;replace hX:=hX.trans hE2;replace hKp:=hKp.ext hE2;refine Ab (H5 hKp<|Fa<|A4 rfl rfl rfl Hp rfl hb1 rfl rfl λw3 hb2 hC1=>?_);replace hsc:=hsc.chg hC1 oM;replace hrow:=Co.chg hrow hC1 (λe=>by have:=hlow _ e;have:=hlowl _ e;omega);replace hX:=hX.chg hC1 oM;replace hKp:=hKp.chg hC1 nM;have sz1:=hC1.size;refine Ab (H5 hKp<|A3 rfl (λ_ hS=>Dq rfl)<|Ex<|gQ [.sq _] EL 4 [] (Ar _) (λ_=>A7 rfl (Aw NP rfl rfl) (FR _ b src i p (.slice ta toks.length tc) hsc c hc oM hp) ?_));rintro _ w4 ⟨rfl,hb3,hE3⟩;replace hrow:=Co.exb hrow hE3 (λe=>by have:=hlow _ e;omega);replace hb2:=hb2.exb hE3 oM;replace hX:=hE3.ext hX hb0;have sz2:=hE3.size;have hp1:=Pk.adv (c:=c) hp;refine gL [.sq _] EL 7 [] (Ar _) (λ_=>A7 rfl (Aw V1 rfl rfl) (F2 _ GV _) ?_);rintro _ w5 ⟨rfl,hE4⟩;replace hrow:=hrow.ext hE4;replace hb2:=hb2.ext hE4;replace hb3:=hb3.ext hE4;replace hX:=hX.trans hE4;have sz3:=hE4.size;refine gL [.sq _,.bk _] EL 4 [] (Ar _) (λ_=>sP 53 rfl (λh1=>?_) (λh1=>?_));exact gP [.bk _] EL 3 [] (Ar _) (λ_=>GI (Ea rfl)<|⟨[],i+1,adv c p,ta,tc,RV hc h1,rfl,by rw[List.append_nil];exact hb3,by rw[List.append_nil];exact hrow,hlow,hX,oM,by have:=Cp hc;omega,hp1⟩);refine gP [.bk _] EL 8 [] (Ar _) (λ_=>sP 57 rfl (λh2=>?_) (λh2=>?_));refine gP [.bk _] EL 2 [] (Ar _) (λ_=>?_);refine Em (λk σ ds w'=>∃(j:Nat)(q:Ps),k=src.length-j∧ds=[]∧σ=(AL SW.e0 0 (.pointer (some ⟨b,0,none⟩)))∧i<j∧j≤src.length∧Pk j q∧K6 (adv c p) (src.drop (i+1))=K6 q (src.drop j)∧AT w' b [S src,.int .i64 ((j:Nat):Int),.int .i64 q.1,.int .i64 q.2,(.slice ta toks.length tc)] 78∧AT w' b1 [.int .i64 p.1,.int .i64 p.2] 26 ∧ Co w' 80 5 ta tc toks.length (F8 toks)∧AY w0 w') (src.length-(i+1)) (AL SW.e0 0 (.pointer (some ⟨b,0,none⟩))) lE ⟨i+1,adv c p,rfl,rfl,rfl,oM,by have:=Cp hc;omega,hp1,rfl,hb3,hb2,hrow,hX⟩ ?_;rintro _ _ _ wl ⟨j,q,rfl,rfl,rfl,hij,hjl,hq,hm,hscl,hl2,hrow,hX⟩;have szl:=hX.size;have lt2:=hl2.lt;have lts:=hscl.lt;refine gP [] EL 2 [] (Ar _) (λ_=>?_);have hr2:=hscl;have hr3:=hl2
 refine Ei mixed (A8 wl [b,b1]) [(true,0),(false,1),(true,2),(true,3),(true,4),(true,5),(true,6),(true,7),(true,8),(true,9),(true,10),(true,11),(true,12),(true,13)] kR kR rfl rfl λw6 hE5 hz3=>?_;have hKp:A8 wl [b,b1] w6:=A8.cons hr2 hE5 (A8.cons hr3 hE5 (A8.nil _ _));refine⟨hKp,?_⟩;replace hscl:=hscl.ext hE5;replace hl2:=hl2.ext hE5;replace hrow:=hrow.ext hE5;replace hX:=hX.trans hE5;refine A3 rfl (λ_ hS=>A1 rfl)<|Fa<|A7 rfl (Aw Rw rfl rfl) (IC _ b src j q (.slice ta toks.length tc) hscl) ?_;rintro _ w7 ⟨rfl,hE6⟩;replace hscl:=hscl.ext hE6;replace hl2:=hl2.ext hE6;replace hrow:=hrow.ext hE6;replace hX:=hX.trans hE6;replace hKp:=hKp.ext hE6;have sz4:=hE6.size;refine Ab (H5 hKp<|A3 rfl (λ_ hS=>A1 rfl)<|P2 62 rfl (λh3=>?_) (λh3=>?_));have hjlt:j<src.length:=by have:=of_decide_eq_true h3;omega
 obtain⟨c1,hc1⟩:=K8 hjlt;refine CD rfl rfl rfl h3 (λ_ hS=>A1 rfl)<|CD rfl rfl rfl h3 (λ_ hS=>B8 rfl)<|CD rfl rfl rfl h3 (λ_ hS=>BO rfl JP)<|CD rfl rfl rfl h3 (λ_ hS=>Al rfl UA (hr2.keep hS (.head _)) rfl)<|CD rfl rfl rfl h3 (λ_ hS=>A1 rfl)<|CD rfl rfl rfl h3 (λ_ hS=>B8 rfl)<|CD rfl rfl rfl h3 (λ_ hS=>BO rfl HG)<|CD rfl rfl rfl h3 (λ_ hS=>Al rfl Qs (hr2.keep hS (.head _)) rfl)<|CD rfl rfl rfl h3 (λ_ hS=>DB (c:=c1) rfl rfl I5 oM (by rw[Int.toNat_natCast];exact hc1))<|CD rfl rfl rfl h3 (λ_ hS=>XJ rfl rfl) ?_;refine A3 rfl (λ_ hS=>O6 rfl h3 rfl)<|Ex<|DE<|sP 73 rfl (λh4=>?_) (λh4=>?_);refine gP [.sq _] EL 6 [] (Ar _) (λ_=>A7 rfl (Aw NP rfl rfl) (FR _ b src j q (.slice ta toks.length tc) hscl c1 hc1 oM hq) ?_);rintro _ w8 ⟨rfl,hb4,hE7⟩;replace hl2:=hl2.exb hE7 oM;replace hrow:=Co.exb hrow hE7 (λe=>by have:=hlow _ e;omega);replace hX:=hE7.ext hX hb0;have sz5:=hE7.size;have hp2:=Pk.adv (c:=c1) hq;refine gL [.bk _] EL 2 [] (Ar _) (λ_=>HN (src.length-(j+1)) (AL SW.e0 0 (.pointer (some ⟨b,0,none⟩))) (by have:=Cp hc1;omega) lE ⟨j+1,adv c1 q,rfl,rfl,rfl,oM,by have:=Cp hc1;omega,hp2,hm.trans (Wn hc1 h4),hb4,hl2,hrow,hX⟩);exact gP [.sq _] EL 3 [] (Ar _) (λ_=>Nq<|gQ [.bk _,.bk _] EL 2 [] (Ar _) (λ_=>GI (Ea rfl)<|⟨[],j,q,ta,tc,by rw[P9 hc h1 h2,hm,Px (.inr ⟨c1,hc1,h4⟩)],rfl,by rw[List.append_nil];exact hscl,by rw[List.append_nil];exact hrow,hlow,hX,hij,hjl,hq⟩));refine CC rfl rfl rfl h3<|CC rfl rfl rfl h3<|CC rfl rfl rfl h3<|CC rfl rfl rfl h3<|CC rfl rfl rfl h3<|CC rfl rfl rfl h3<|CC rfl rfl rfl h3<|CC rfl rfl rfl h3<|CC rfl rfl rfl h3<|CC rfl rfl rfl h3 ?_;exact A3 rfl (λ_ hS=>Nz rfl h3 rfl)<|Ex<|gQ [.sq _,.sq _] EL 4 [] (Ar _) (λ_=>Nq<|gQ [.bk _,.bk _] EL 2 [] (Ar _) (λ_=>GI (Ea rfl)<|⟨[],j,q,ta,tc,by rw[P9 hc h1 h2,hm,Px (.inl (by have:=of_decide_eq_false h3;omega))],rfl,by rw[List.append_nil];exact hscl,by rw[List.append_nil];exact hrow,hlow,hX,hij,hjl,hq⟩));refine gP [.bk _] EL 8 [] (Ar _) (λ_=>sP 76 rfl (λh5=>?_) (λh5=>?_));refine Gk rfl rfl ?_;have hr4:=hb2;refine Ey mixed (A8 w5 [b1]) (rd [0,1,2,3,5,6] (.br 4 (.br 7 (.br 8 (.rd 9 (.rd 10 (.br 11 .fin .fin))) .fin) .fin) (.br 7 (.br 4 (.br 8 (.rd 9 (.rd 10 (.br 11 .fin .fin))) .fin) .fin) .fin))) kR kR kR λw9 hE8 hz4=>?_;have hKp:A8 w5 [b1] w9:=A8.cons hr4 hE8 (A8.nil _ _);refine⟨hKp,?_⟩;replace hrow:=hrow.ext hE8;replace hb2:=hb2.ext hE8;replace hb3:=hb3.ext hE8;replace hX:=hX.trans hE8;refine Av rfl rfl (λ_ hS=>A1 rfl)<|Av rfl rfl (λ_ hS=>A1 rfl)<|Av rfl rfl (λ_ hS=>B8 rfl)<|Av rfl rfl (λ_ hS=>BO rfl Di)<|Av rfl rfl (λ_ hS=>D0 rfl Hp (hr4.keep hS (.head _)) rfl)<|Av rfl rfl (λ_ hS=>DV rfl WQ Gb rfl)<|Am rfl ?_ ?_;refine Aa rfl (Al rfl DG hb3 rfl)<|Ab (An hKp<|Am rfl ?_ Ae);refine Cn rfl rfl H0 Gb rfl rfl rfl rfl rfl λb2 w10 hb5 hE9 hs2 hz5=>?_;replace hrow:=hrow.ext hE9;replace hb2:=hb2.ext hE9;replace hb3:=hb3.ext hE9;replace hX:=hX.trans hE9;replace hKp:=hKp.ext hE9;refine Ab (An hKp<|Am rfl ?_ Ae)
 refine Bg rfl J2 rfl rfl rfl rfl hrow hb5 rfl rfl oM oM λta2 GP w11 hr2 hG2=>?_;have hlow2:∀x,rb ta2=some x→w0.heap.size≤x∧x≠b:=Cf hG2 hlow oM;replace hb3:=hb3.grow hG2 (λe=>by have:=hlow _ e.symm;have:=hlowl _ e.symm;omega);replace hX:=hX.grow hG2 (λx hx=>(hlow x hx).1);replace hKp:=hKp.grow hG2 (by simp only[List.mem_cons,List.not_mem_nil,or_false];intro c hc e;have:=hlow _ e.symm;have:=hlowl _ e.symm;omega);have sz6:=hG2.size;refine Ab (An hKp<|Av rfl rfl (λ_ hS=>B8 rfl)<|Av rfl rfl (λ_ hS=>BO rfl Di)<|Am rfl ?_ Ae);refine A4 rfl rfl rfl DG rfl hb3 rfl rfl λw12 hb6 hC2=>?_;replace hr2:=Co.chg hr2 hC2 (λe=>by have:=hlow2 _ e;omega);replace hX:=hX.chg hC2 oM;replace hKp:=hKp.chg hC2 nM;have sz7:=hC2.size;exact Ab (An hKp<|BD<|Ef<|GI (Ea rfl)<|⟨[⟨0,p.1,p.2,0,[]⟩],i+1,adv c p,ta2,GP,RE hc h1 h2 h5,rfl,by rw[List.length_append];exact hb6,by rw[List.length_append,BM];exact hr2,hlow2,hX,oM,by first|omega|(have:=Cp hc;omega),hp1⟩);refine Am rfl ?_ ?_;refine Cn rfl rfl H0 Gb rfl rfl rfl rfl rfl λb3 w13 hb7 hE10 hs3 hz6=>?_;replace hrow:=hrow.ext hE10;replace hb2:=hb2.ext hE10;replace hb3:=hb3.ext hE10;replace hX:=hX.trans hE10;replace hKp:=hKp.ext hE10;refine Ab (An hKp<|Am rfl ?_ Ae);refine Aa rfl (Al rfl DG hb3 rfl)<|Ab (An hKp<|Am rfl ?_ Ae);refine Bg rfl J2 rfl rfl rfl rfl hrow hb7 rfl rfl oM oM λta2 GP w14 hr2 hG2=>?_;have hlow2:∀x,rb ta2=some x→w0.heap.size≤x∧x≠b:=Cf hG2 hlow oM;replace hb3:=hb3.grow hG2 (λe=>by have:=hlow _ e.symm;have:=hlowl _ e.symm;omega);replace hX:=hX.grow hG2 (λx hx=>(hlow x hx).1);replace hKp:=hKp.grow hG2 (by simp only[List.mem_cons,List.not_mem_nil,or_false];intro c hc e;have:=hlow _ e.symm;have:=hlowl _ e.symm;omega);have sz8:=hG2.size;refine Ab (An hKp<|Av rfl rfl (λ_ hS=>B8 rfl)<|Av rfl rfl (λ_ hS=>BO rfl Di)<|Am rfl ?_ Ae);refine A4 rfl rfl rfl DG rfl hb3 rfl rfl λw15 hb8 hC3=>?_;replace hr2:=Co.chg hr2 hC3 (λe=>by have:=hlow2 _ e;omega);replace hX:=hX.chg hC3 oM;replace hKp:=hKp.chg hC3 nM;have sz9:=hC3.size;exact Ab (An hKp<|BD<|Ef<|GI (Ea rfl)<|⟨[⟨0,p.1,p.2,0,[]⟩],i+1,adv c p,ta2,GP,RE hc h1 h2 h5,rfl,by rw[List.length_append];exact hb8,by rw[List.length_append,BM];exact hr2,hlow2,hX,oM,by first|omega|(have:=Cp hc;omega),hp1⟩);exact Ae;refine gP [.bk _] EL 8 [] (Ar _) (λ_=>sP 90 rfl (λh6=>?_) (λh6=>?_));refine Gk rfl rfl ?_;have hr5:=hb2;refine Ey mixed (A8 w5 [b1]) (rd [0,1,2,3,5,6] (.br 4 (.br 7 (.br 8 (.rd 9 (.rd 10 (.br 11 .fin .fin))) .fin) .fin) (.br 7 (.br 4 (.br 8 (.rd 9 (.rd 10 (.br 11 .fin .fin))) .fin) .fin) .fin))) kR kR kR λw16 hE11 hz7=>?_;have hKp:A8 w5 [b1] w16:=A8.cons hr5 hE11 (A8.nil _ _);refine⟨hKp,?_⟩;replace hrow:=hrow.ext hE11;replace hb2:=hb2.ext hE11;replace hb3:=hb3.ext hE11;replace hX:=hX.trans hE11
 refine Av rfl rfl (λ_ hS=>A1 rfl)<|Av rfl rfl (λ_ hS=>A1 rfl)<|Av rfl rfl (λ_ hS=>B8 rfl)<|Av rfl rfl (λ_ hS=>BO rfl Di)<|Av rfl rfl (λ_ hS=>D0 rfl Hp (hr5.keep hS (.head _)) rfl)<|Av rfl rfl (λ_ hS=>DV rfl WQ Gb rfl)<|Am rfl ?_ ?_;refine Aa rfl (Al rfl DG hb3 rfl)<|Ab (An hKp<|Am rfl ?_ Ae);refine Cn rfl rfl H0 Gb rfl rfl rfl rfl rfl λb4 w17 hb9 hE12 hs4 hz8=>?_;replace hrow:=hrow.ext hE12;replace hb2:=hb2.ext hE12;replace hb3:=hb3.ext hE12;replace hX:=hX.trans hE12;replace hKp:=hKp.ext hE12;refine Ab (An hKp<|Am rfl ?_ Ae);refine Bg rfl J2 rfl rfl rfl rfl hrow hb9 rfl rfl oM oM λta2 GP w18 hr2 hG2=>?_;have hlow2:∀x,rb ta2=some x→w0.heap.size≤x∧x≠b:=Cf hG2 hlow oM;replace hb3:=hb3.grow hG2 (λe=>by have:=hlow _ e.symm;have:=hlowl _ e.symm;omega);replace hX:=hX.grow hG2 (λx hx=>(hlow x hx).1);replace hKp:=hKp.grow hG2 (by simp only[List.mem_cons,List.not_mem_nil,or_false];intro c hc e;have:=hlow _ e.symm;have:=hlowl _ e.symm;omega);have sz10:=hG2.size;refine Ab (An hKp<|Av rfl rfl (λ_ hS=>B8 rfl)<|Av rfl rfl (λ_ hS=>BO rfl Di)<|Am rfl ?_ Ae);refine A4 rfl rfl rfl DG rfl hb3 rfl rfl λw19 hb10 hC4=>?_;replace hr2:=Co.chg hr2 hC4 (λe=>by have:=hlow2 _ e;omega);replace hX:=hX.chg hC4 oM;replace hKp:=hKp.chg hC4 nM;have sz11:=hC4.size;exact Ab (An hKp<|BD<|Ef<|GI (Ea rfl)<|⟨[⟨1,p.1,p.2,0,[]⟩],i+1,adv c p,ta2,GP,RS hc h1 h2 h5 h6,rfl,by rw[List.length_append];exact hb10,by rw[List.length_append,BM];exact hr2,hlow2,hX,oM,by first|omega|(have:=Cp hc;omega),hp1⟩);refine Am rfl ?_ ?_;refine Cn rfl rfl H0 Gb rfl rfl rfl rfl rfl λb5 w20 hb11 hE13 hs5 hz9=>?_;replace hrow:=hrow.ext hE13;replace hb2:=hb2.ext hE13;replace hb3:=hb3.ext hE13;replace hX:=hX.trans hE13;replace hKp:=hKp.ext hE13;refine Ab (An hKp<|Am rfl ?_ Ae);refine Aa rfl (Al rfl DG hb3 rfl)<|Ab (An hKp<|Am rfl ?_ Ae);refine Bg rfl J2 rfl rfl rfl rfl hrow hb11 rfl rfl oM oM λta2 GP w21 hr2 hG2=>?_;have hlow2:∀x,rb ta2=some x→w0.heap.size≤x∧x≠b:=Cf hG2 hlow oM;replace hb3:=hb3.grow hG2 (λe=>by have:=hlow _ e.symm;have:=hlowl _ e.symm;omega);replace hX:=hX.grow hG2 (λx hx=>(hlow x hx).1);replace hKp:=hKp.grow hG2 (by simp only[List.mem_cons,List.not_mem_nil,or_false];intro c hc e;have:=hlow _ e.symm;have:=hlowl _ e.symm;omega);have sz12:=hG2.size;refine Ab (An hKp<|Av rfl rfl (λ_ hS=>B8 rfl)<|Av rfl rfl (λ_ hS=>BO rfl Di)<|Am rfl ?_ Ae);refine A4 rfl rfl rfl DG rfl hb3 rfl rfl λw22 hb12 hC5=>?_;replace hr2:=Co.chg hr2 hC5 (λe=>by have:=hlow2 _ e;omega);replace hX:=hX.chg hC5 oM;replace hKp:=hKp.chg hC5 nM;have sz13:=hC5.size;exact Ab (An hKp<|BD<|Ef<|GI (Ea rfl)<|⟨[⟨1,p.1,p.2,0,[]⟩],i+1,adv c p,ta2,GP,RS hc h1 h2 h5 h6,rfl,by rw[List.length_append];exact hb12,by rw[List.length_append,BM];exact hr2,hlow2,hX,oM,by first|omega|(have:=Cp hc;omega),hp1⟩);exact Ae;refine gP [.bk _] EL 8 [] (Ar _) (λ_=>sP 104 rfl (λh7=>?_) (λh7=>?_));refine Gk rfl rfl ?_;have hr6:=hb2
 refine Ey mixed (A8 w5 [b1]) (rd [0,1,2,3,5,6] (.br 4 (.br 7 (.br 8 (.br 9 (.rd 10 (.rd 11 (.br 12 .fin .fin))) .fin) .fin) .fin) (.br 7 (.br 4 (.br 8 (.br 9 (.rd 10 (.rd 11 (.br 12 .fin .fin))) .fin) .fin) (.br 8 (.br 4 (.br 9 (.rd 10 (.rd 11 (.br 12 .fin .fin))) .fin) .fin) .fin)) .fin))) kR kR kR λw23 hE14 hz10=>?_;have hKp:A8 w5 [b1] w23:=A8.cons hr6 hE14 (A8.nil _ _);refine⟨hKp,?_⟩;replace hrow:=hrow.ext hE14;replace hb2:=hb2.ext hE14;replace hb3:=hb3.ext hE14;replace hX:=hX.trans hE14;refine Av rfl rfl (λ_ hS=>A1 rfl)<|Av rfl rfl (λ_ hS=>A1 rfl)<|Av rfl rfl (λ_ hS=>B8 rfl)<|Av rfl rfl (λ_ hS=>BO rfl Di)<|Av rfl rfl (λ_ hS=>A1 rfl)<|Av rfl rfl (λ_ hS=>D0 rfl Hp (hr6.keep hS (.head _)) rfl)<|Am rfl ?_ ?_;refine Aa rfl (Al rfl DG hb3 rfl)<|Ab (An hKp<|Am rfl ?_ Ae);refine Ck rfl (Aw fA rfl rfl) (SF _ b src (i+1) (adv c p) (.slice ta toks.length tc) hb3 p (by have:=Cp hc;omega) oM hp1) ?_ (λcc wp hc1=>And.intro rfl (let ⟨e,he,hcc,hE⟩:=hc1;⟨e,by rw[Iu hc h1 h2 h5 h6 h7,he],hcc,hE.ext hX hb0⟩));rintro _ w24 ⟨tx,i1,p1,hstr,rfl,hb13,hE15,hi1,hi2,hp1⟩;replace hrow:=Co.exb hrow hE15 (λe=>by have:=hlow _ e;omega);replace hb2:=hb2.exb hE15 oM;replace hX:=hE15.ext hX hb0;have sz14:=hE15.size;replace hKp:=hKp.exb hE15 nM;refine Ab (An hKp<|Am rfl ?_ Ae);refine Cn rfl rfl H0 Gb rfl rfl rfl rfl rfl λb6 w25 hb14 hE16 hs6 hz11=>?_;replace hrow:=hrow.ext hE16;replace hb2:=hb2.ext hE16;replace hb13:=hb13.ext hE16;replace hX:=hX.trans hE16;replace hKp:=hKp.ext hE16;refine Ab (An hKp<|Am rfl ?_ Ae);refine Bg rfl J2 rfl rfl rfl rfl hrow hb14 rfl rfl oM oM λta2 GP w26 hr2 hG2=>?_;have hlow2:∀x,rb ta2=some x→w0.heap.size≤x∧x≠b:=Cf hG2 hlow oM;replace hb13:=hb13.grow hG2 (λe=>by have:=hlow _ e.symm;have:=hlowl _ e.symm;omega);replace hX:=hX.grow hG2 (λx hx=>(hlow x hx).1);replace hKp:=hKp.grow hG2 (by simp only[List.mem_cons,List.not_mem_nil,or_false];intro c hc e;have:=hlow _ e.symm;have:=hlowl _ e.symm;omega);have sz15:=hG2.size;refine Ab (An hKp<|Av rfl rfl (λ_ hS=>B8 rfl)<|Av rfl rfl (λ_ hS=>BO rfl Di)<|Am rfl ?_ Ae);refine A4 rfl rfl rfl DG rfl hb13 rfl rfl λw27 hb15 hC6=>?_;replace hr2:=Co.chg hr2 hC6 (λe=>by have:=hlow2 _ e;omega);replace hX:=hX.chg hC6 oM;replace hKp:=hKp.chg hC6 nM;have sz16:=hC6.size;exact Ab (An hKp<|BD<|Ef<|GI (Ea rfl)<|⟨[⟨4,p.1,p.2,0,tx⟩],i1,p1,ta2,GP,by rw[Iu hc h1 h2 h5 h6 h7,hstr],rfl,by rw[List.length_append];exact hb15,by rw[List.length_append,BM];exact hr2,hlow2,hX,oM,by first|omega|(have:=Cp hc;omega),hp1⟩);refine Am rfl ?_ ?_;refine Ck rfl (Aw fA rfl rfl) (SF _ b src (i+1) (adv c p) (.slice ta toks.length tc) hb3 p (by have:=Cp hc;omega) oM hp1) ?_ (λcc wp hc1=>And.intro rfl (let ⟨e,he,hcc,hE⟩:=hc1;⟨e,by rw[Iu hc h1 h2 h5 h6 h7,he],hcc,hE.ext hX hb0⟩));rintro _ w28 ⟨tx,i1,p1,hstr,rfl,hb16,hE17,hi1,hi2,hp1⟩;replace hrow:=Co.exb hrow hE17 (λe=>by have:=hlow _ e;omega);replace hb2:=hb2.exb hE17 oM;replace hX:=hE17.ext hX hb0;have sz17:=hE17.size
 replace hKp:=hKp.exb hE17 nM;refine Ab (An hKp<|Am rfl ?_ ?_);refine Aa rfl (Al rfl DG hb16 rfl)<|Ab (An hKp<|Am rfl ?_ Ae);refine Cn rfl rfl H0 Gb rfl rfl rfl rfl rfl λb7 w29 hb17 hE18 hs7 hz12=>?_;replace hrow:=hrow.ext hE18;replace hb2:=hb2.ext hE18;replace hb16:=hb16.ext hE18;replace hX:=hX.trans hE18;replace hKp:=hKp.ext hE18;refine Ab (An hKp<|Am rfl ?_ Ae);refine Bg rfl J2 rfl rfl rfl rfl hrow hb17 rfl rfl oM oM λta2 GP w30 hr2 hG2=>?_;have hlow2:∀x,rb ta2=some x→w0.heap.size≤x∧x≠b:=Cf hG2 hlow oM;replace hb16:=hb16.grow hG2 (λe=>by have:=hlow _ e.symm;have:=hlowl _ e.symm;omega);replace hX:=hX.grow hG2 (λx hx=>(hlow x hx).1);replace hKp:=hKp.grow hG2 (by simp only[List.mem_cons,List.not_mem_nil,or_false];intro c hc e;have:=hlow _ e.symm;have:=hlowl _ e.symm;omega);have sz18:=hG2.size;refine Ab (An hKp<|Av rfl rfl (λ_ hS=>B8 rfl)<|Av rfl rfl (λ_ hS=>BO rfl Di)<|Am rfl ?_ Ae);refine A4 rfl rfl rfl DG rfl hb16 rfl rfl λw31 hb18 hC7=>?_;replace hr2:=Co.chg hr2 hC7 (λe=>by have:=hlow2 _ e;omega);replace hX:=hX.chg hC7 oM;replace hKp:=hKp.chg hC7 nM;have sz19:=hC7.size;exact Ab (An hKp<|BD<|Ef<|GI (Ea rfl)<|⟨[⟨4,p.1,p.2,0,tx⟩],i1,p1,ta2,GP,by rw[Iu hc h1 h2 h5 h6 h7,hstr],rfl,by rw[List.length_append];exact hb18,by rw[List.length_append,BM];exact hr2,hlow2,hX,oM,by first|omega|(have:=Cp hc;omega),hp1⟩);refine Am rfl ?_ ?_;refine Cn rfl rfl H0 Gb rfl rfl rfl rfl rfl λb8 w32 hb19 hE19 hs8 hz13=>?_;replace hrow:=hrow.ext hE19;replace hb2:=hb2.ext hE19;replace hb16:=hb16.ext hE19;replace hX:=hX.trans hE19;replace hKp:=hKp.ext hE19;refine Ab (An hKp<|Am rfl ?_ Ae);refine Aa rfl (Al rfl DG hb16 rfl)<|Ab (An hKp<|Am rfl ?_ Ae);refine Bg rfl J2 rfl rfl rfl rfl hrow hb19 rfl rfl oM oM λta2 GP w33 hr2 hG2=>?_;have hlow2:∀x,rb ta2=some x→w0.heap.size≤x∧x≠b:=Cf hG2 hlow oM;replace hb16:=hb16.grow hG2 (λe=>by have:=hlow _ e.symm;have:=hlowl _ e.symm;omega);replace hX:=hX.grow hG2 (λx hx=>(hlow x hx).1);replace hKp:=hKp.grow hG2 (by simp only[List.mem_cons,List.not_mem_nil,or_false];intro c hc e;have:=hlow _ e.symm;have:=hlowl _ e.symm;omega);have sz20:=hG2.size;refine Ab (An hKp<|Av rfl rfl (λ_ hS=>B8 rfl)<|Av rfl rfl (λ_ hS=>BO rfl Di)<|Am rfl ?_ Ae);refine A4 rfl rfl rfl DG rfl hb16 rfl rfl λw34 hb20 hC8=>?_;replace hr2:=Co.chg hr2 hC8 (λe=>by have:=hlow2 _ e;omega);replace hX:=hX.chg hC8 oM;replace hKp:=hKp.chg hC8 nM;have sz21:=hC8.size;exact Ab (An hKp<|BD<|Ef<|GI (Ea rfl)<|⟨[⟨4,p.1,p.2,0,tx⟩],i1,p1,ta2,GP,by rw[Iu hc h1 h2 h5 h6 h7,hstr],rfl,by rw[List.length_append];exact hb20,by rw[List.length_append,BM];exact hr2,hlow2,hX,oM,by first|omega|(have:=Cp hc;omega),hp1⟩);exact Ae;exact Ae
 refine Kh rfl rfl<|Qd (E3 0 (.pointer (some ⟨b,0,none⟩)) 2 (.pointer (some ⟨b1,0,none⟩)) 3 (.int .i64 (i:Int))) (λw'=>∃(j:Nat)(q:Ps),i<j∧j≤src.length∧Pk j q∧DJ (adv c p) (src.drop (i+1))=(Fl src (i+1) j,src.drop j,q)∧AT w' b [S src,.int .i64 ((j:Nat):Int),.int .i64 q.1,.int .i64 q.2,(.slice ta toks.length tc)] 78∧AT w' b1 [.int .i64 p.1,.int .i64 p.2] 26 ∧ Co w' 80 5 ta tc toks.length (F8 toks)∧AY w0 w') ?_ ?_;refine Es ?_;refine Em (λk σ ds w'=>∃(j:Nat)(q:Ps),k=src.length-j∧ds=[]∧σ=(E3 0 (.pointer (some ⟨b,0,none⟩)) 2 (.pointer (some ⟨b1,0,none⟩)) 3 (.int .i64 (i:Int)))∧i<j∧j≤src.length∧Pk j q∧DJ (adv c p) (src.drop (i+1))=(Fl src (i+1) j++(DJ q (src.drop j)).1,(DJ q (src.drop j)).2)∧AT w' b [S src,.int .i64 ((j:Nat):Int),.int .i64 q.1,.int .i64 q.2,(.slice ta toks.length tc)] 78∧AT w' b1 [.int .i64 p.1,.int .i64 p.2] 26 ∧ Co w' 80 5 ta tc toks.length (F8 toks)∧AY w0 w') (src.length-(i+1)) (E3 0 (.pointer (some ⟨b,0,none⟩)) 2 (.pointer (some ⟨b1,0,none⟩)) 3 (.int .i64 (i:Int))) lE ⟨i+1,adv c p,rfl,rfl,rfl,oM,by have:=Cp hc;omega,hp1,by rw[Uj];rfl,hb3,hb2,hrow,hX⟩ ?_;rintro _ _ _ wl ⟨j,q,rfl,rfl,rfl,hij,hjl,hq,hm,hscl,hl2,hrow,hX⟩;have szl:=hX.size;have lt2:=hl2.lt;have lts:=hscl.lt;refine gP [] EL 2 [] (Ar _) (λ_=>?_);have hr7:=hscl;have hr8:=hl2;refine Ei mixed (A8 wl [b,b1]) [(true,0),(false,1),(true,2),(true,3),(true,4),(true,5),(true,6),(true,7),(true,8),(true,9),(true,10),(true,11),(false,12),(true,13),(true,14)] kR kR rfl rfl λw35 hE20 hz14=>?_;have hKp:A8 wl [b,b1] w35:=A8.cons hr7 hE20 (A8.cons hr8 hE20 (A8.nil _ _));refine⟨hKp,?_⟩;replace hscl:=hscl.ext hE20;replace hl2:=hl2.ext hE20;replace hrow:=hrow.ext hE20;replace hX:=hX.trans hE20;refine A3 rfl (λ_ hS=>A1 rfl)<|Fa<|A7 rfl (Aw Rw rfl rfl) (IC _ b src j q (.slice ta toks.length tc) hscl) ?_;rintro _ w36 ⟨rfl,hE21⟩;replace hscl:=hscl.ext hE21;replace hl2:=hl2.ext hE21;replace hrow:=hrow.ext hE21;replace hX:=hX.trans hE21;replace hKp:=hKp.ext hE21;have sz22:=hE21.size;refine Ab (H5 hKp<|A3 rfl (λ_ hS=>A1 rfl)<|P2 17 rfl (λh8=>?_) (λh8=>?_));have hjlt:j<src.length:=by have:=of_decide_eq_true h8;omega
 obtain⟨c1,hc1⟩:=K8 hjlt;refine CD rfl rfl rfl h8 (λ_ hS=>A1 rfl)<|CD rfl rfl rfl h8 (λ_ hS=>B8 rfl)<|CD rfl rfl rfl h8 (λ_ hS=>BO rfl JP)<|CD rfl rfl rfl h8 (λ_ hS=>Al rfl UA (hr7.keep hS (.head _)) rfl)<|CD rfl rfl rfl h8 (λ_ hS=>A1 rfl)<|CD rfl rfl rfl h8 (λ_ hS=>B8 rfl)<|CD rfl rfl rfl h8 (λ_ hS=>BO rfl HG)<|CD rfl rfl rfl h8 (λ_ hS=>Al rfl Qs (hr7.keep hS (.head _)) rfl)<|CD rfl rfl rfl h8 (λ_ hS=>DB (c:=c1) rfl rfl I5 oM (by rw[Int.toNat_natCast];exact hc1))<|Fa ?_;refine BI rfl rfl h8<|A7 rfl (Aw V1 rfl rfl) (F2 _ Vm _) ?_;rintro _ w37 ⟨rfl,hE22⟩;replace hscl:=hscl.ext hE22;replace hl2:=hl2.ext hE22;replace hrow:=hrow.ext hE22;replace hX:=hX.trans hE22;replace hKp:=hKp.ext hE22;have sz23:=hE22.size;refine Ab (H5 hKp<|CD rfl rfl rfl h8 (λ_ hS=>UN rfl rfl)<|A3 rfl (λ_ hS=>O6 rfl h8 rfl)<|Ex<|DE<|sP 29 rfl (λh9=>?_) (λh9=>?_));refine gP [.sq _] EL 6 [] (Ar _) (λ_=>A7 rfl (Aw NP rfl rfl) (FR _ b src j q (.slice ta toks.length tc) hscl c1 hc1 oM hq) ?_);rintro _ w38 ⟨rfl,hb21,hE23⟩;replace hl2:=hl2.exb hE23 oM;replace hrow:=Co.exb hrow hE23 (λe=>by have:=hlow _ e;omega);replace hX:=hE23.ext hX hb0;have sz24:=hE23.size;have hp3:=Pk.adv (c:=c1) hq;refine gL [.bk _] EL 2 [] (Ar _) (λ_=>HN (src.length-(j+1)) (E3 0 (.pointer (some ⟨b,0,none⟩)) 2 (.pointer (some ⟨b1,0,none⟩)) 3 (.int .i64 (i:Int))) (by have:=Cp hc1;omega) lE ⟨j+1,adv c1 q,rfl,rfl,rfl,oM,by have:=Cp hc1;omega,hp3,by rw[hm,UF hc1 h9,UB (by omega) hc1,List.append_assoc];rfl,hb21,hl2,hrow,hX⟩);exact gP [.sq _] EL 3 [] (Ar _) (λ_=>Nq<|P8<|Py lE ⟨j,q,hij,hjl,hq,by rw[hm,NY (p:=q) (src:=src) (j:=j) (.inr ⟨c1,hc1,h9⟩),List.append_nil],hscl,hl2,hrow,hX⟩);refine CC rfl rfl rfl h8<|CC rfl rfl rfl h8<|CC rfl rfl rfl h8<|CC rfl rfl rfl h8<|CC rfl rfl rfl h8<|CC rfl rfl rfl h8<|CC rfl rfl rfl h8<|CC rfl rfl rfl h8<|CC rfl rfl rfl h8<|Fa ?_;exact cI rfl rfl rfl h8<|Ab (H5 hKp<|CC rfl rfl rfl h8<|A3 rfl (λ_ hS=>Nz rfl h8 rfl)<|Ex<|gQ [.sq _,.sq _] EL 4 [] (Ar _) (λ_=>Nq<|P8<|Py lE ⟨j,q,hij,hjl,hq,by rw[hm,NY (p:=q) (src:=src) (j:=j) (.inl (by have:=of_decide_eq_false h8;omega)),List.append_nil],hscl,hl2,hrow,hX⟩));rintro wl ⟨j,q,hij,hjl,hq,hm,hscl,hl2,hrow,hX⟩;have szl:=hX.size;have lt2:=hl2.lt;have lts:=hscl.lt;have hr9:=hl2
 refine Ey mixed (A8 wl [b1]) (rd [0,1,2,3,5,6,7,9,10,11,12,15] (.br 4 (.br 8 (.br 13 (.rd 14 (.br 16 (.br 17 (.br 18 (.rd 19 (.rd 20 (.br 21 .fin .fin))) .fin) .fin) .fin)) .fin) (.br 13 (.br 8 (.rd 14 (.br 16 (.br 17 (.br 18 (.rd 19 (.rd 20 (.br 21 .fin .fin))) .fin) .fin) .fin)) .fin) .fin)) (.br 8 (.br 4 (.br 13 (.rd 14 (.br 16 (.br 17 (.br 18 (.rd 19 (.rd 20 (.br 21 .fin .fin))) .fin) .fin) .fin)) .fin) (.br 13 (.rd 14 (.br 4 (.br 16 (.br 17 (.br 18 (.rd 19 (.rd 20 (.br 21 .fin .fin))) .fin) .fin) .fin) (.br 16 (.br 4 (.br 17 (.br 18 (.rd 19 (.rd 20 (.br 21 .fin .fin))) .fin) .fin) (.br 17 (.br 4 (.br 18 (.rd 19 (.rd 20 (.br 21 .fin .fin))) .fin) .fin) .fin)) .fin))) .fin)) (.br 13 (.br 4 (.br 8 (.rd 14 (.br 16 (.br 17 (.br 18 (.rd 19 (.rd 20 (.br 21 .fin .fin))) .fin) .fin) .fin)) .fin) (.br 8 (.rd 14 (.br 4 (.br 16 (.br 17 (.br 18 (.rd 19 (.rd 20 (.br 21 .fin .fin))) .fin) .fin) .fin) (.br 16 (.br 4 (.br 17 (.br 18 (.rd 19 (.rd 20 (.br 21 .fin .fin))) .fin) .fin) (.br 17 (.br 4 (.br 18 (.rd 19 (.rd 20 (.br 21 .fin .fin))) .fin) .fin) .fin)) .fin))) .fin)) .fin)))) kR kR kR λw39 hE24 hz15=>?_;have hKp:A8 wl [b1] w39:=A8.cons hr9 hE24 (A8.nil _ _);refine⟨hKp,?_⟩;replace hscl:=hscl.ext hE24;replace hl2:=hl2.ext hE24;replace hrow:=hrow.ext hE24;replace hX:=hX.trans hE24;refine Av rfl rfl (λ_ hS=>A1 rfl)<|Av rfl rfl (λ_ hS=>A1 rfl)<|Av rfl rfl (λ_ hS=>B8 rfl)<|Av rfl rfl (λ_ hS=>BO rfl Di)<|Av rfl rfl (λ_ hS=>A1 rfl)<|Av rfl rfl (λ_ hS=>B8 rfl)<|Av rfl rfl (λ_ hS=>BO rfl JP)<|Av rfl rfl (λ_ hS=>A1 rfl)<|Av rfl rfl (λ_ hS=>A1 rfl)<|Av rfl rfl (λ_ hS=>B8 rfl) ?_;refine Av rfl rfl (λ_ hS=>BO rfl HG)<|Av rfl rfl (λ_ hS=>D0 rfl Hp (hr9.keep hS (.head _)) rfl)<|Am rfl ?_ ?_;refine Aa rfl (Al rfl DG hscl rfl)<|Ab (An hKp<|Am rfl ?_ ?_);refine Aa rfl (Al rfl UA hscl rfl)<|Ab (An hKp<|Am rfl ?_ Ae);refine Aa rfl (Al rfl Qs hscl rfl)<|Ab (An hKp<|Av rfl rfl (λ_ hS=>LW rfl rfl rfl I5 ⟨oM,oM,oM⟩)<|Am rfl ?_ Ae);refine Ck rfl (Aw MD rfl rfl) (Fm hPF _ (hG.ext hX) (Fl src i j) (by have:=Fk src i j;omega) (by rw[AX hij hc];simp) p) ?_ (λcc wp hc1=>And.intro rfl (let ⟨he,hcc,hE⟩:=hc1;⟨p,by rw[BT hc h1 h2 h5 h6 h7,hm];simp only[];rw[← AX hij hc,he],hcc,hX.trans hE⟩));rintro _ w40 ⟨wk,wn,wt,hw,rfl,hE25⟩;replace hscl:=hscl.ext hE25;replace hl2:=hl2.ext hE25;replace hrow:=hrow.ext hE25;replace hX:=hX.trans hE25;replace hKp:=hKp.ext hE25;have sz25:=hE25.size;have hst2:CO (src.length+1) p (src.drop i)=.ok ([⟨wk,p.1,p.2,wn,wt⟩],src.drop j,q):=by rw[BT hc h1 h2 h5 h6 h7,hm];simp only[];rw[← AX hij hc,hw]
 refine Ab (An hKp<|Am rfl ?_ Ae);refine Cn rfl rfl H0 Gb rfl rfl rfl rfl rfl λb9 w41 hb22 hE26 hs9 hz16=>?_;replace hscl:=hscl.ext hE26;replace hl2:=hl2.ext hE26;replace hrow:=hrow.ext hE26;replace hX:=hX.trans hE26;replace hKp:=hKp.ext hE26;refine Ab (An hKp<|Am rfl ?_ Ae);refine Bg rfl J2 rfl rfl rfl rfl hrow hb22 rfl rfl oM oM λta2 GP w42 hr2 hG2=>?_;have hlow2:∀x,rb ta2=some x→w0.heap.size≤x∧x≠b:=Cf hG2 hlow oM;replace hscl:=hscl.grow hG2 (λe=>by have:=hlow _ e.symm;have:=hlowl _ e.symm;omega);replace hl2:=hl2.grow hG2 (λe=>by have:=hlow _ e.symm;have:=hlowl _ e.symm;omega);replace hX:=hX.grow hG2 (λx hx=>(hlow x hx).1);replace hKp:=hKp.grow hG2 (by simp only[List.mem_cons,List.not_mem_nil,or_false];intro c hc e;have:=hlow _ e.symm;have:=hlowl _ e.symm;omega);have sz26:=hG2.size;refine Ab (An hKp<|Av rfl rfl (λ_ hS=>B8 rfl)<|Av rfl rfl (λ_ hS=>BO rfl Di)<|Am rfl ?_ Ae);refine A4 rfl rfl rfl DG rfl hscl rfl rfl λw43 hb23 hC9=>?_;replace hl2:=hl2.chg hC9 oM;replace hr2:=Co.chg hr2 hC9 (λe=>by have:=hlow2 _ e;omega);replace hX:=hX.chg hC9 oM;replace hKp:=hKp.chg hC9 nM;have sz27:=hC9.size;exact Ab (An hKp<|BD<|Ef<|GI (Ea rfl)<|⟨[⟨wk,p.1,p.2,wn,wt⟩],j,q,ta2,GP,hst2,rfl,by rw[List.length_append];exact hb23,by rw[List.length_append,BM];exact hr2,hlow2,hX,oM,by first|omega|(have:=Cp hc;omega),hq⟩);refine Am rfl ?_ ?_;refine Aa rfl (Al rfl Qs hscl rfl)<|Ab (An hKp<|Am rfl ?_ Ae);refine Aa rfl (Al rfl UA hscl rfl)<|Ab (An hKp<|Av rfl rfl (λ_ hS=>LW rfl rfl rfl I5 ⟨oM,oM,oM⟩)<|Am rfl ?_ Ae);refine Ck rfl (Aw MD rfl rfl) (Fm hPF _ (hG.ext hX) (Fl src i j) (by have:=Fk src i j;omega) (by rw[AX hij hc];simp) p) ?_ (λcc wp hc1=>And.intro rfl (let ⟨he,hcc,hE⟩:=hc1;⟨p,by rw[BT hc h1 h2 h5 h6 h7,hm];simp only[];rw[← AX hij hc,he],hcc,hX.trans hE⟩));rintro _ w44 ⟨wk,wn,wt,hw,rfl,hE27⟩;replace hscl:=hscl.ext hE27;replace hl2:=hl2.ext hE27;replace hrow:=hrow.ext hE27;replace hX:=hX.trans hE27;replace hKp:=hKp.ext hE27;have sz28:=hE27.size;have hst2:CO (src.length+1) p (src.drop i)=.ok ([⟨wk,p.1,p.2,wn,wt⟩],src.drop j,q):=by rw[BT hc h1 h2 h5 h6 h7,hm];simp only[];rw[← AX hij hc,hw]
 refine Ab (An hKp<|Am rfl ?_ Ae);refine Cn rfl rfl H0 Gb rfl rfl rfl rfl rfl λb10 w45 hb24 hE28 hs10 hz17=>?_;replace hscl:=hscl.ext hE28;replace hl2:=hl2.ext hE28;replace hrow:=hrow.ext hE28;replace hX:=hX.trans hE28;replace hKp:=hKp.ext hE28;refine Ab (An hKp<|Am rfl ?_ Ae);refine Bg rfl J2 rfl rfl rfl rfl hrow hb24 rfl rfl oM oM λta2 GP w46 hr2 hG2=>?_;have hlow2:∀x,rb ta2=some x→w0.heap.size≤x∧x≠b:=Cf hG2 hlow oM;replace hscl:=hscl.grow hG2 (λe=>by have:=hlow _ e.symm;have:=hlowl _ e.symm;omega);replace hl2:=hl2.grow hG2 (λe=>by have:=hlow _ e.symm;have:=hlowl _ e.symm;omega);replace hX:=hX.grow hG2 (λx hx=>(hlow x hx).1);replace hKp:=hKp.grow hG2 (by simp only[List.mem_cons,List.not_mem_nil,or_false];intro c hc e;have:=hlow _ e.symm;have:=hlowl _ e.symm;omega);have sz29:=hG2.size;refine Ab (An hKp<|Av rfl rfl (λ_ hS=>B8 rfl)<|Av rfl rfl (λ_ hS=>BO rfl Di)<|Am rfl ?_ Ae);refine A4 rfl rfl rfl DG rfl hscl rfl rfl λw47 hb25 hC10=>?_;replace hl2:=hl2.chg hC10 oM;replace hr2:=Co.chg hr2 hC10 (λe=>by have:=hlow2 _ e;omega);replace hX:=hX.chg hC10 oM;replace hKp:=hKp.chg hC10 nM;have sz30:=hC10.size;exact Ab (An hKp<|BD<|Ef<|GI (Ea rfl)<|⟨[⟨wk,p.1,p.2,wn,wt⟩],j,q,ta2,GP,hst2,rfl,by rw[List.length_append];exact hb25,by rw[List.length_append,BM];exact hr2,hlow2,hX,oM,by first|omega|(have:=Cp hc;omega),hq⟩);exact Ae;refine Am rfl ?_ ?_;refine Aa rfl (Al rfl UA hscl rfl)<|Ab (An hKp<|Am rfl ?_ ?_);refine Aa rfl (Al rfl DG hscl rfl)<|Ab (An hKp<|Am rfl ?_ Ae);refine Aa rfl (Al rfl Qs hscl rfl)<|Ab (An hKp<|Av rfl rfl (λ_ hS=>LW rfl rfl rfl I5 ⟨oM,oM,oM⟩)<|Am rfl ?_ Ae);refine Ck rfl (Aw MD rfl rfl) (Fm hPF _ (hG.ext hX) (Fl src i j) (by have:=Fk src i j;omega) (by rw[AX hij hc];simp) p) ?_ (λcc wp hc1=>And.intro rfl (let ⟨he,hcc,hE⟩:=hc1;⟨p,by rw[BT hc h1 h2 h5 h6 h7,hm];simp only[];rw[← AX hij hc,he],hcc,hX.trans hE⟩));rintro _ w48 ⟨wk,wn,wt,hw,rfl,hE29⟩;replace hscl:=hscl.ext hE29;replace hl2:=hl2.ext hE29;replace hrow:=hrow.ext hE29;replace hX:=hX.trans hE29;replace hKp:=hKp.ext hE29;have sz31:=hE29.size;have hst2:CO (src.length+1) p (src.drop i)=.ok ([⟨wk,p.1,p.2,wn,wt⟩],src.drop j,q):=by rw[BT hc h1 h2 h5 h6 h7,hm];simp only[];rw[← AX hij hc,hw]
 refine Ab (An hKp<|Am rfl ?_ Ae);refine Cn rfl rfl H0 Gb rfl rfl rfl rfl rfl λb11 w49 hb26 hE30 hs11 hz18=>?_;replace hscl:=hscl.ext hE30;replace hl2:=hl2.ext hE30;replace hrow:=hrow.ext hE30;replace hX:=hX.trans hE30;replace hKp:=hKp.ext hE30;refine Ab (An hKp<|Am rfl ?_ Ae);refine Bg rfl J2 rfl rfl rfl rfl hrow hb26 rfl rfl oM oM λta2 GP w50 hr2 hG2=>?_;have hlow2:∀x,rb ta2=some x→w0.heap.size≤x∧x≠b:=Cf hG2 hlow oM;replace hscl:=hscl.grow hG2 (λe=>by have:=hlow _ e.symm;have:=hlowl _ e.symm;omega);replace hl2:=hl2.grow hG2 (λe=>by have:=hlow _ e.symm;have:=hlowl _ e.symm;omega);replace hX:=hX.grow hG2 (λx hx=>(hlow x hx).1);replace hKp:=hKp.grow hG2 (by simp only[List.mem_cons,List.not_mem_nil,or_false];intro c hc e;have:=hlow _ e.symm;have:=hlowl _ e.symm;omega);have sz32:=hG2.size;refine Ab (An hKp<|Av rfl rfl (λ_ hS=>B8 rfl)<|Av rfl rfl (λ_ hS=>BO rfl Di)<|Am rfl ?_ Ae);refine A4 rfl rfl rfl DG rfl hscl rfl rfl λw51 hb27 hC11=>?_;replace hl2:=hl2.chg hC11 oM;replace hr2:=Co.chg hr2 hC11 (λe=>by have:=hlow2 _ e;omega);replace hX:=hX.chg hC11 oM;replace hKp:=hKp.chg hC11 nM;have sz33:=hC11.size;exact Ab (An hKp<|BD<|Ef<|GI (Ea rfl)<|⟨[⟨wk,p.1,p.2,wn,wt⟩],j,q,ta2,GP,hst2,rfl,by rw[List.length_append];exact hb27,by rw[List.length_append,BM];exact hr2,hlow2,hX,oM,by first|omega|(have:=Cp hc;omega),hq⟩);refine Am rfl ?_ ?_;refine Aa rfl (Al rfl Qs hscl rfl)<|Ab (An hKp<|Av rfl rfl (λ_ hS=>LW rfl rfl rfl I5 ⟨oM,oM,oM⟩)<|Am rfl ?_ ?_);refine Aa rfl (Al rfl DG hscl rfl)<|Ab (An hKp<|Am rfl ?_ Ae);refine Ck rfl (Aw MD rfl rfl) (Fm hPF _ (hG.ext hX) (Fl src i j) (by have:=Fk src i j;omega) (by rw[AX hij hc];simp) p) ?_ (λcc wp hc1=>And.intro rfl (let ⟨he,hcc,hE⟩:=hc1;⟨p,by rw[BT hc h1 h2 h5 h6 h7,hm];simp only[];rw[← AX hij hc,he],hcc,hX.trans hE⟩));rintro _ w52 ⟨wk,wn,wt,hw,rfl,hE31⟩;replace hscl:=hscl.ext hE31;replace hl2:=hl2.ext hE31;replace hrow:=hrow.ext hE31;replace hX:=hX.trans hE31;replace hKp:=hKp.ext hE31;have sz34:=hE31.size;have hst2:CO (src.length+1) p (src.drop i)=.ok ([⟨wk,p.1,p.2,wn,wt⟩],src.drop j,q):=by rw[BT hc h1 h2 h5 h6 h7,hm];simp only[];rw[← AX hij hc,hw]
 refine Ab (An hKp<|Am rfl ?_ Ae);refine Cn rfl rfl H0 Gb rfl rfl rfl rfl rfl λb12 w53 hb28 hE32 hs12 hz19=>?_;replace hscl:=hscl.ext hE32;replace hl2:=hl2.ext hE32;replace hrow:=hrow.ext hE32;replace hX:=hX.trans hE32;replace hKp:=hKp.ext hE32;refine Ab (An hKp<|Am rfl ?_ Ae);refine Bg rfl J2 rfl rfl rfl rfl hrow hb28 rfl rfl oM oM λta2 GP w54 hr2 hG2=>?_;have hlow2:∀x,rb ta2=some x→w0.heap.size≤x∧x≠b:=Cf hG2 hlow oM;replace hscl:=hscl.grow hG2 (λe=>by have:=hlow _ e.symm;have:=hlowl _ e.symm;omega);replace hl2:=hl2.grow hG2 (λe=>by have:=hlow _ e.symm;have:=hlowl _ e.symm;omega);replace hX:=hX.grow hG2 (λx hx=>(hlow x hx).1);replace hKp:=hKp.grow hG2 (by simp only[List.mem_cons,List.not_mem_nil,or_false];intro c hc e;have:=hlow _ e.symm;have:=hlowl _ e.symm;omega);have sz35:=hG2.size;refine Ab (An hKp<|Av rfl rfl (λ_ hS=>B8 rfl)<|Av rfl rfl (λ_ hS=>BO rfl Di)<|Am rfl ?_ Ae);refine A4 rfl rfl rfl DG rfl hscl rfl rfl λw55 hb29 hC12=>?_;replace hl2:=hl2.chg hC12 oM;replace hr2:=Co.chg hr2 hC12 (λe=>by have:=hlow2 _ e;omega);replace hX:=hX.chg hC12 oM;replace hKp:=hKp.chg hC12 nM;have sz36:=hC12.size;exact Ab (An hKp<|BD<|Ef<|GI (Ea rfl)<|⟨[⟨wk,p.1,p.2,wn,wt⟩],j,q,ta2,GP,hst2,rfl,by rw[List.length_append];exact hb29,by rw[List.length_append,BM];exact hr2,hlow2,hX,oM,by first|omega|(have:=Cp hc;omega),hq⟩);refine Am rfl ?_ ?_;refine Ck rfl (Aw MD rfl rfl) (Fm hPF _ (hG.ext hX) (Fl src i j) (by have:=Fk src i j;omega) (by rw[AX hij hc];simp) p) ?_ (λcc wp hc1=>And.intro rfl (let ⟨he,hcc,hE⟩:=hc1;⟨p,by rw[BT hc h1 h2 h5 h6 h7,hm];simp only[];rw[← AX hij hc,he],hcc,hX.trans hE⟩));rintro _ w56 ⟨wk,wn,wt,hw,rfl,hE33⟩;replace hscl:=hscl.ext hE33;replace hl2:=hl2.ext hE33;replace hrow:=hrow.ext hE33;replace hX:=hX.trans hE33;replace hKp:=hKp.ext hE33;have sz37:=hE33.size;have hst2:CO (src.length+1) p (src.drop i)=.ok ([⟨wk,p.1,p.2,wn,wt⟩],src.drop j,q):=by rw[BT hc h1 h2 h5 h6 h7,hm];simp only[];rw[← AX hij hc,hw]
 refine Ab (An hKp<|Am rfl ?_ ?_);refine Aa rfl (Al rfl DG hscl rfl)<|Ab (An hKp<|Am rfl ?_ Ae);refine Cn rfl rfl H0 Gb rfl rfl rfl rfl rfl λb13 w57 hb30 hE34 hs13 hz20=>?_;replace hscl:=hscl.ext hE34;replace hl2:=hl2.ext hE34;replace hrow:=hrow.ext hE34;replace hX:=hX.trans hE34;replace hKp:=hKp.ext hE34;refine Ab (An hKp<|Am rfl ?_ Ae);refine Bg rfl J2 rfl rfl rfl rfl hrow hb30 rfl rfl oM oM λta2 GP w58 hr2 hG2=>?_;have hlow2:∀x,rb ta2=some x→w0.heap.size≤x∧x≠b:=Cf hG2 hlow oM;replace hscl:=hscl.grow hG2 (λe=>by have:=hlow _ e.symm;have:=hlowl _ e.symm;omega);replace hl2:=hl2.grow hG2 (λe=>by have:=hlow _ e.symm;have:=hlowl _ e.symm;omega);replace hX:=hX.grow hG2 (λx hx=>(hlow x hx).1);replace hKp:=hKp.grow hG2 (by simp only[List.mem_cons,List.not_mem_nil,or_false];intro c hc e;have:=hlow _ e.symm;have:=hlowl _ e.symm;omega);have sz38:=hG2.size;refine Ab (An hKp<|Av rfl rfl (λ_ hS=>B8 rfl)<|Av rfl rfl (λ_ hS=>BO rfl Di)<|Am rfl ?_ Ae);refine A4 rfl rfl rfl DG rfl hscl rfl rfl λw59 hb31 hC13=>?_;replace hl2:=hl2.chg hC13 oM;replace hr2:=Co.chg hr2 hC13 (λe=>by have:=hlow2 _ e;omega);replace hX:=hX.chg hC13 oM;replace hKp:=hKp.chg hC13 nM;have sz39:=hC13.size;exact Ab (An hKp<|BD<|Ef<|GI (Ea rfl)<|⟨[⟨wk,p.1,p.2,wn,wt⟩],j,q,ta2,GP,hst2,rfl,by rw[List.length_append];exact hb31,by rw[List.length_append,BM];exact hr2,hlow2,hX,oM,by first|omega|(have:=Cp hc;omega),hq⟩);refine Am rfl ?_ ?_;refine Cn rfl rfl H0 Gb rfl rfl rfl rfl rfl λb14 w60 hb32 hE35 hs14 hz21=>?_;replace hscl:=hscl.ext hE35;replace hl2:=hl2.ext hE35;replace hrow:=hrow.ext hE35;replace hX:=hX.trans hE35;replace hKp:=hKp.ext hE35;refine Ab (An hKp<|Am rfl ?_ Ae);refine Aa rfl (Al rfl DG hscl rfl)<|Ab (An hKp<|Am rfl ?_ Ae);refine Bg rfl J2 rfl rfl rfl rfl hrow hb32 rfl rfl oM oM λta2 GP w61 hr2 hG2=>?_;have hlow2:∀x,rb ta2=some x→w0.heap.size≤x∧x≠b:=Cf hG2 hlow oM;replace hscl:=hscl.grow hG2 (λe=>by have:=hlow _ e.symm;have:=hlowl _ e.symm;omega);replace hl2:=hl2.grow hG2 (λe=>by have:=hlow _ e.symm;have:=hlowl _ e.symm;omega);replace hX:=hX.grow hG2 (λx hx=>(hlow x hx).1);replace hKp:=hKp.grow hG2 (by simp only[List.mem_cons,List.not_mem_nil,or_false];intro c hc e;have:=hlow _ e.symm;have:=hlowl _ e.symm;omega);have sz40:=hG2.size;refine Ab (An hKp<|Av rfl rfl (λ_ hS=>B8 rfl)<|Av rfl rfl (λ_ hS=>BO rfl Di)<|Am rfl ?_ Ae);refine A4 rfl rfl rfl DG rfl hscl rfl rfl λw62 hb33 hC14=>?_;replace hl2:=hl2.chg hC14 oM;replace hr2:=Co.chg hr2 hC14 (λe=>by have:=hlow2 _ e;omega);replace hX:=hX.chg hC14 oM;replace hKp:=hKp.chg hC14 nM;have sz41:=hC14.size;exact Ab (An hKp<|BD<|Ef<|GI (Ea rfl)<|⟨[⟨wk,p.1,p.2,wn,wt⟩],j,q,ta2,GP,hst2,rfl,by rw[List.length_append];exact hb33,by rw[List.length_append,BM];exact hr2,hlow2,hX,oM,by first|omega|(have:=Cp hc;omega),hq⟩);exact Ae;exact Ae;exact Ae;refine Am rfl ?_ ?_;refine Aa rfl (Al rfl Qs hscl rfl)<|Ab (An hKp<|Am rfl ?_ ?_);refine Aa rfl (Al rfl DG hscl rfl)<|Ab (An hKp<|Am rfl ?_ Ae)
 refine Aa rfl (Al rfl UA hscl rfl)<|Ab (An hKp<|Av rfl rfl (λ_ hS=>LW rfl rfl rfl I5 ⟨oM,oM,oM⟩)<|Am rfl ?_ Ae);refine Ck rfl (Aw MD rfl rfl) (Fm hPF _ (hG.ext hX) (Fl src i j) (by have:=Fk src i j;omega) (by rw[AX hij hc];simp) p) ?_ (λcc wp hc1=>And.intro rfl (let ⟨he,hcc,hE⟩:=hc1;⟨p,by rw[BT hc h1 h2 h5 h6 h7,hm];simp only[];rw[← AX hij hc,he],hcc,hX.trans hE⟩));rintro _ w63 ⟨wk,wn,wt,hw,rfl,hE36⟩;replace hscl:=hscl.ext hE36;replace hl2:=hl2.ext hE36;replace hrow:=hrow.ext hE36;replace hX:=hX.trans hE36;replace hKp:=hKp.ext hE36;have sz42:=hE36.size;have hst2:CO (src.length+1) p (src.drop i)=.ok ([⟨wk,p.1,p.2,wn,wt⟩],src.drop j,q):=by rw[BT hc h1 h2 h5 h6 h7,hm];simp only[];rw[← AX hij hc,hw]
 refine Ab (An hKp<|Am rfl ?_ Ae);refine Cn rfl rfl H0 Gb rfl rfl rfl rfl rfl λb15 w64 hb34 hE37 hs15 hz22=>?_;replace hscl:=hscl.ext hE37;replace hl2:=hl2.ext hE37;replace hrow:=hrow.ext hE37;replace hX:=hX.trans hE37;replace hKp:=hKp.ext hE37;refine Ab (An hKp<|Am rfl ?_ Ae);refine Bg rfl J2 rfl rfl rfl rfl hrow hb34 rfl rfl oM oM λta2 GP w65 hr2 hG2=>?_;have hlow2:∀x,rb ta2=some x→w0.heap.size≤x∧x≠b:=Cf hG2 hlow oM;replace hscl:=hscl.grow hG2 (λe=>by have:=hlow _ e.symm;have:=hlowl _ e.symm;omega);replace hl2:=hl2.grow hG2 (λe=>by have:=hlow _ e.symm;have:=hlowl _ e.symm;omega);replace hX:=hX.grow hG2 (λx hx=>(hlow x hx).1);replace hKp:=hKp.grow hG2 (by simp only[List.mem_cons,List.not_mem_nil,or_false];intro c hc e;have:=hlow _ e.symm;have:=hlowl _ e.symm;omega);have sz43:=hG2.size;refine Ab (An hKp<|Av rfl rfl (λ_ hS=>B8 rfl)<|Av rfl rfl (λ_ hS=>BO rfl Di)<|Am rfl ?_ Ae);refine A4 rfl rfl rfl DG rfl hscl rfl rfl λw66 hb35 hC15=>?_;replace hl2:=hl2.chg hC15 oM;replace hr2:=Co.chg hr2 hC15 (λe=>by have:=hlow2 _ e;omega);replace hX:=hX.chg hC15 oM;replace hKp:=hKp.chg hC15 nM;have sz44:=hC15.size;exact Ab (An hKp<|BD<|Ef<|GI (Ea rfl)<|⟨[⟨wk,p.1,p.2,wn,wt⟩],j,q,ta2,GP,hst2,rfl,by rw[List.length_append];exact hb35,by rw[List.length_append,BM];exact hr2,hlow2,hX,oM,by first|omega|(have:=Cp hc;omega),hq⟩);refine Am rfl ?_ ?_;refine Aa rfl (Al rfl UA hscl rfl)<|Ab (An hKp<|Av rfl rfl (λ_ hS=>LW rfl rfl rfl I5 ⟨oM,oM,oM⟩)<|Am rfl ?_ ?_);refine Aa rfl (Al rfl DG hscl rfl)<|Ab (An hKp<|Am rfl ?_ Ae);refine Ck rfl (Aw MD rfl rfl) (Fm hPF _ (hG.ext hX) (Fl src i j) (by have:=Fk src i j;omega) (by rw[AX hij hc];simp) p) ?_ (λcc wp hc1=>And.intro rfl (let ⟨he,hcc,hE⟩:=hc1;⟨p,by rw[BT hc h1 h2 h5 h6 h7,hm];simp only[];rw[← AX hij hc,he],hcc,hX.trans hE⟩));rintro _ w67 ⟨wk,wn,wt,hw,rfl,hE38⟩;replace hscl:=hscl.ext hE38;replace hl2:=hl2.ext hE38;replace hrow:=hrow.ext hE38;replace hX:=hX.trans hE38;replace hKp:=hKp.ext hE38;have sz45:=hE38.size;have hst2:CO (src.length+1) p (src.drop i)=.ok ([⟨wk,p.1,p.2,wn,wt⟩],src.drop j,q):=by rw[BT hc h1 h2 h5 h6 h7,hm];simp only[];rw[← AX hij hc,hw]
 refine Ab (An hKp<|Am rfl ?_ Ae);refine Cn rfl rfl H0 Gb rfl rfl rfl rfl rfl λb16 w68 hb36 hE39 hs16 hz23=>?_;replace hscl:=hscl.ext hE39;replace hl2:=hl2.ext hE39;replace hrow:=hrow.ext hE39;replace hX:=hX.trans hE39;replace hKp:=hKp.ext hE39;refine Ab (An hKp<|Am rfl ?_ Ae);refine Bg rfl J2 rfl rfl rfl rfl hrow hb36 rfl rfl oM oM λta2 GP w69 hr2 hG2=>?_;have hlow2:∀x,rb ta2=some x→w0.heap.size≤x∧x≠b:=Cf hG2 hlow oM;replace hscl:=hscl.grow hG2 (λe=>by have:=hlow _ e.symm;have:=hlowl _ e.symm;omega);replace hl2:=hl2.grow hG2 (λe=>by have:=hlow _ e.symm;have:=hlowl _ e.symm;omega);replace hX:=hX.grow hG2 (λx hx=>(hlow x hx).1);replace hKp:=hKp.grow hG2 (by simp only[List.mem_cons,List.not_mem_nil,or_false];intro c hc e;have:=hlow _ e.symm;have:=hlowl _ e.symm;omega);have sz46:=hG2.size;refine Ab (An hKp<|Av rfl rfl (λ_ hS=>B8 rfl)<|Av rfl rfl (λ_ hS=>BO rfl Di)<|Am rfl ?_ Ae);refine A4 rfl rfl rfl DG rfl hscl rfl rfl λw70 hb37 hC16=>?_;replace hl2:=hl2.chg hC16 oM;replace hr2:=Co.chg hr2 hC16 (λe=>by have:=hlow2 _ e;omega);replace hX:=hX.chg hC16 oM;replace hKp:=hKp.chg hC16 nM;have sz47:=hC16.size;exact Ab (An hKp<|BD<|Ef<|GI (Ea rfl)<|⟨[⟨wk,p.1,p.2,wn,wt⟩],j,q,ta2,GP,hst2,rfl,by rw[List.length_append];exact hb37,by rw[List.length_append,BM];exact hr2,hlow2,hX,oM,by first|omega|(have:=Cp hc;omega),hq⟩);refine Am rfl ?_ ?_;refine Ck rfl (Aw MD rfl rfl) (Fm hPF _ (hG.ext hX) (Fl src i j) (by have:=Fk src i j;omega) (by rw[AX hij hc];simp) p) ?_ (λcc wp hc1=>And.intro rfl (let ⟨he,hcc,hE⟩:=hc1;⟨p,by rw[BT hc h1 h2 h5 h6 h7,hm];simp only[];rw[← AX hij hc,he],hcc,hX.trans hE⟩));rintro _ w71 ⟨wk,wn,wt,hw,rfl,hE40⟩;replace hscl:=hscl.ext hE40;replace hl2:=hl2.ext hE40;replace hrow:=hrow.ext hE40;replace hX:=hX.trans hE40;replace hKp:=hKp.ext hE40;have sz48:=hE40.size;have hst2:CO (src.length+1) p (src.drop i)=.ok ([⟨wk,p.1,p.2,wn,wt⟩],src.drop j,q):=by rw[BT hc h1 h2 h5 h6 h7,hm];simp only[];rw[← AX hij hc,hw]
 refine Ab (An hKp<|Am rfl ?_ ?_);refine Aa rfl (Al rfl DG hscl rfl)<|Ab (An hKp<|Am rfl ?_ Ae);refine Cn rfl rfl H0 Gb rfl rfl rfl rfl rfl λb17 w72 hb38 hE41 hs17 hz24=>?_;replace hscl:=hscl.ext hE41;replace hl2:=hl2.ext hE41;replace hrow:=hrow.ext hE41;replace hX:=hX.trans hE41;replace hKp:=hKp.ext hE41;refine Ab (An hKp<|Am rfl ?_ Ae);refine Bg rfl J2 rfl rfl rfl rfl hrow hb38 rfl rfl oM oM λta2 GP w73 hr2 hG2=>?_;have hlow2:∀x,rb ta2=some x→w0.heap.size≤x∧x≠b:=Cf hG2 hlow oM;replace hscl:=hscl.grow hG2 (λe=>by have:=hlow _ e.symm;have:=hlowl _ e.symm;omega);replace hl2:=hl2.grow hG2 (λe=>by have:=hlow _ e.symm;have:=hlowl _ e.symm;omega);replace hX:=hX.grow hG2 (λx hx=>(hlow x hx).1);replace hKp:=hKp.grow hG2 (by simp only[List.mem_cons,List.not_mem_nil,or_false];intro c hc e;have:=hlow _ e.symm;have:=hlowl _ e.symm;omega);have sz49:=hG2.size;refine Ab (An hKp<|Av rfl rfl (λ_ hS=>B8 rfl)<|Av rfl rfl (λ_ hS=>BO rfl Di)<|Am rfl ?_ Ae);refine A4 rfl rfl rfl DG rfl hscl rfl rfl λw74 hb39 hC17=>?_;replace hl2:=hl2.chg hC17 oM;replace hr2:=Co.chg hr2 hC17 (λe=>by have:=hlow2 _ e;omega);replace hX:=hX.chg hC17 oM;replace hKp:=hKp.chg hC17 nM;have sz50:=hC17.size;exact Ab (An hKp<|BD<|Ef<|GI (Ea rfl)<|⟨[⟨wk,p.1,p.2,wn,wt⟩],j,q,ta2,GP,hst2,rfl,by rw[List.length_append];exact hb39,by rw[List.length_append,BM];exact hr2,hlow2,hX,oM,by first|omega|(have:=Cp hc;omega),hq⟩);refine Am rfl ?_ ?_;refine Cn rfl rfl H0 Gb rfl rfl rfl rfl rfl λb18 w75 hb40 hE42 hs18 hz25=>?_;replace hscl:=hscl.ext hE42;replace hl2:=hl2.ext hE42;replace hrow:=hrow.ext hE42;replace hX:=hX.trans hE42;replace hKp:=hKp.ext hE42;refine Ab (An hKp<|Am rfl ?_ Ae);refine Aa rfl (Al rfl DG hscl rfl)<|Ab (An hKp<|Am rfl ?_ Ae);refine Bg rfl J2 rfl rfl rfl rfl hrow hb40 rfl rfl oM oM λta2 GP w76 hr2 hG2=>?_;have hlow2:∀x,rb ta2=some x→w0.heap.size≤x∧x≠b:=Cf hG2 hlow oM;replace hscl:=hscl.grow hG2 (λe=>by have:=hlow _ e.symm;have:=hlowl _ e.symm;omega);replace hl2:=hl2.grow hG2 (λe=>by have:=hlow _ e.symm;have:=hlowl _ e.symm;omega);replace hX:=hX.grow hG2 (λx hx=>(hlow x hx).1);replace hKp:=hKp.grow hG2 (by simp only[List.mem_cons,List.not_mem_nil,or_false];intro c hc e;have:=hlow _ e.symm;have:=hlowl _ e.symm;omega);have sz51:=hG2.size;refine Ab (An hKp<|Av rfl rfl (λ_ hS=>B8 rfl)<|Av rfl rfl (λ_ hS=>BO rfl Di)<|Am rfl ?_ Ae);refine A4 rfl rfl rfl DG rfl hscl rfl rfl λw77 hb41 hC18=>?_;replace hl2:=hl2.chg hC18 oM;replace hr2:=Co.chg hr2 hC18 (λe=>by have:=hlow2 _ e;omega);replace hX:=hX.chg hC18 oM;replace hKp:=hKp.chg hC18 nM;have sz52:=hC18.size;exact Ab (An hKp<|BD<|Ef<|GI (Ea rfl)<|⟨[⟨wk,p.1,p.2,wn,wt⟩],j,q,ta2,GP,hst2,rfl,by rw[List.length_append];exact hb41,by rw[List.length_append,BM];exact hr2,hlow2,hX,oM,by first|omega|(have:=Cp hc;omega),hq⟩);exact Ae;exact Ae;exact Ae;exact Ae
theorem Rt(w:World)(c2 c3 c4:Nat) :
  CallsD prog 26 [.pointer (some ⟨c2,0,none⟩),.pointer (some ⟨c3,0,none⟩),.pointer (some ⟨c4,0,none⟩)].toArray .returning w λr m w'=>∃x,r=.returned x∧m=.returning∧(AY w w'):=by
 have hX:=AY.refl w;refine D9 (R:=λw'=>AY w w') func26 rfl rfl rfl rfl N3<|Es<|Cg<|CN<|Aa rfl (Q9 eW rfl)<|Ab<|DE<|Gk rfl rfl<|CN<|Aa rfl (Dq rfl) ?_;exact Ab<|Ef<|GI (Ea rfl)<|hX
theorem UX(w0 w:World)(hX0:AY w0 w)(c2 c3 c4:Nat)(v2 x3 y3 v4:Value)(hc2:AT w c2 [v2] 38)(hc3:AT w c3 [x3,y3] 26)(hc4:AT w c4 [v4] 27)(g2:w0.heap.size≤c2)(g3:w0.heap.size≤c3)(g4:w0.heap.size≤c4)(n23:c2≠c3)(n24:c2≠c4)(n34:c3≠c4)(e:Int×Int) :
  CallsD prog 26 [.pointer (some ⟨c2,0,none⟩),.pointer (some ⟨c3,0,none⟩),.pointer (some ⟨c4,0,none⟩)].toArray (.panicking (Rc 75 e)) w λr m w'=>∃x,r=.returned x∧m=.panicking [{v:=.iface 75 (.agg #[.int .i64 e.1,.int .i64 e.2]),recovered:=true}]∧(AY w0 w'∧AT w' c2 [.slice none 0 0] 38∧AT w' c3 [.int .i64 e.1,.int .i64 e.2] 26∧AT w' c4 [.int .i64 10] 27):=by
 have l2:=hc2.lt;have l3:=hc3.lt;have l4:=hc4.lt;have hX:=hX0;have szx:=hX.size;refine D9 (R:=λw'=>AY w0 w'∧AT w' c2 [.slice none 0 0] 38∧AT w' c3 [.int .i64 e.1,.int .i64 e.2] 26∧AT w' c4 [.int .i64 10] 27) func26 rfl rfl rfl rfl Qo<|Es<|Cg<|CN<|Aa rfl (Q0 eW rfl)<|Ab<|DE<|Kh rfl rfl<|Cg<|CN ?_;refine Aa rfl (TZ rfl rP)<|Aa rfl (Ub rfl rfl)<|Aa rfl (Ub rfl rfl)<|Ab<|DE<|Gk rfl rfl<|Cg<|CN<|CT rfl eB λb1 w1 hb1 hE1 hs1 hz1=>?_;replace hc2:=hc2.ext hE1;replace hc3:=hc3.ext hE1;replace hc4:=hc4.ext hE1;replace hX:=hX.trans hE1;refine A4 rfl rfl rfl sG rfl hb1 rfl rfl λw2 hb2 hC1=>?_;replace hc2:=hc2.chg hC1 oM;replace hc3:=hc3.chg hC1 oM;replace hc4:=hc4.chg hC1 oM;replace hX:=hX.chg hC1 oM;have sz1:=hC1.size;refine Ab<|DE ?_;have hr1:=hb2;refine Ei mixed (A8 w2 [b1]) [(true,0),(true,1),(false,2),(false,3),(false,4)] kR kR rfl rfl λw3 hE2 hz2=>?_;have hKp:A8 w2 [b1] w3:=A8.cons hr1 hE2 (A8.nil _ _);refine⟨hKp,?_⟩;replace hc2:=hc2.ext hE2;replace hc3:=hc3.ext hE2;replace hc4:=hc4.ext hE2;replace hb2:=hb2.ext hE2;replace hX:=hX.trans hE2;refine A3 rfl (λ_ hS=>BO rfl lF)<|A3 rfl (λ_ hS=>D0 rfl Hp (hr1.keep hS (.head _)) rfl)<|Fa<|A4 rfl rfl rfl DG rfl hc2 rfl rfl λw4 hb3 hC2=>?_;replace hc3:=hc3.chg hC2 oM;replace hc4:=hc4.chg hC2 oM;replace hb2:=hb2.chg hC2 oM;replace hX:=hX.chg hC2 oM;replace hKp:=hKp.chg hC2 nM;have sz2:=hC2.size;refine Ab (H5 hKp<|Fa<|A4 rfl rfl rfl Hp rfl hc3 rfl rfl λw5 hb4 hC3=>?_);replace hb3:=hb3.chg hC3 oM;replace hc4:=hc4.chg hC3 oM;replace hb2:=hb2.chg hC3 oM;replace hX:=hX.chg hC3 oM;replace hKp:=hKp.chg hC3 nM;have sz3:=hC3.size;refine Ab (H5 hKp<|Fa<|A4 rfl rfl rfl Ws rfl hc4 rfl rfl λw6 hb5 hC4=>?_);replace hb3:=hb3.chg hC4 oM;replace hb4:=hb4.chg hC4 oM;replace hb2:=hb2.chg hC4 oM;replace hX:=hX.chg hC4 oM;replace hKp:=hKp.chg hC4 nM;have sz4:=hC4.size;exact Ab (H5 hKp<|Ex<|Ef<|GI (Ea rfl)<|⟨hX,hb3,hb4,hb5⟩)
def pH(w w':World)(v:Value):Except (Int×Int×Int) (List AM)→Prop
 |.error e=>v=.tuple #[.slice none 0 0,.agg #[.int .i64 e.1,.int .i64 e.2.1],.int .i64 e.2.2]∧AY w w'
 |.ok toks=>∃ta tc,v=.tuple #[.slice ta toks.length tc,.agg #[.int .i64 0,.int .i64 0],.int .i64 0]∧(Co w' 80 5 ta tc toks.length (F8 toks)∧∀b,rb ta=some b→w.heap.size≤b)∧AY w w'
theorem Pl(hPF:pU)(w:World)(hG:Gl w)(src:lU) :
  BC prog 8 #[S src] w λv w'=>pH w w' v (Jz src):=by
 have hX:=AY.refl w;refine gX (l:=[S src]) func8 rfl rfl rfl<|Cg<|CN<|CT rfl sJ λb1 w1 hb1 hE1 hs1 hz1=>?_;replace hX:=hX.trans hE1;refine CT rfl Ri λb2 w2 hb2 hE2 hs2 hz2=>?_;replace hb1:=hb1.ext hE2;replace hX:=hX.trans hE2;refine CT rfl tB λb3 w3 hb3 hE3 hs3 hz3=>?_;replace hb1:=hb1.ext hE3;replace hb2:=hb2.ext hE3;replace hX:=hX.trans hE3;refine Ab<|DE<|Cg<|Cg<|CN<|Aa rfl (A1 rfl)<|Aa rfl (MP rfl I5)<|Aa rfl (ZJ rfl rfl)<|Ab<|DE ?_;refine No rfl (λh1=>?_) (λh1=>?_);refine Cg<|CN<|Aa rfl (DV rfl eG Ri rfl)<|A4 rfl rfl rfl DG rfl hb1 rfl rfl λw4 hb4 hC1=>?_;replace hb2:=hb2.chg hC1 oM;replace hb3:=hb3.chg hC1 oM;replace hX:=hX.chg hC1 oM;have sz1:=hC1.size;refine A4 rfl rfl rfl Hp rfl hb2 rfl rfl λw5 hb5 hC2=>?_;replace hb4:=hb4.chg hC2 oM;replace hb3:=hb3.chg hC2 oM;replace hX:=hX.chg hC2 oM;have sz2:=hC2.size;refine A4 rfl rfl rfl Ws rfl hb3 rfl rfl λw6 hb6 hC3=>?_;replace hb4:=hb4.chg hC3 oM;replace hb5:=hb5.chg hC3 oM;replace hX:=hX.chg hC3 oM;have sz3:=hC3.size;exact Ab<|DE<|Kf<|VX<|λtmps hσ=>Cb hσ (EC rfl (B3 rfl DG hb4 rfl) (Ac rfl Hp hb5 rfl) (B3 rfl Ws hb6 rfl)) ⟨_,rfl,by rw[Jz,if_pos h1];exact⟨rfl,hX⟩⟩;refine Iv<|DE<|Cg<|CN<|Aa rfl (TQ rfl)<|OV rfl ?_;have hlen:src.length≤65536:=by have:=of_decide_eq_false h1;omega
 refine Ab<|DE<|Cg ?_;have hb1B:=hb1;have hb2B:=hb2;have hb3B:=hb3;have hX0:=hX;refine CN<|Aa rfl (A1 rfl)<|Aa rfl (DV rfl eG Ri rfl)<|Aa rfl (DV rfl sV uW rfl)<|Ew rfl rfl rfl λb4 w7 hb7 hE4 hs4 hz4=>?_;replace hb1:=hb1.ext hE4;replace hb2:=hb2.ext hE4;replace hb3:=hb3.ext hE4;replace hX:=hX.trans hE4;refine Aa rfl (Dq rfl)<|Ab<|DE<|Cg<|Es ?_;refine Em (λk σ ds w'=>∃(j n:Nat)(q:Ps)(toks:List AM)(ta:Option Addr)(tc:Nat),k=src.length-j∧ds=[{target:=.fn (.func 26) ([.pointer (some ⟨b1,0,none⟩),.pointer (some ⟨b2,0,none⟩),.pointer (some ⟨b3,0,none⟩)]:List Value).toArray,args:=#[]}]∧σ=(E4 2 (.pointer (some ⟨b1,0,none⟩)) 3 (.pointer (some ⟨b2,0,none⟩)) 4 (.pointer (some ⟨b3,0,none⟩)) 5 (.pointer (some ⟨b4,0,none⟩)))∧j≤src.length∧src.length≤j+n∧Pk j q∧toks.length≤j∧El (src.length+1) src.length (1,1) src=UE toks (El (src.length+1) n q (src.drop j))∧AT w' b4 [S src,.int .i64 ((j:Nat):Int),.int .i64 q.1,.int .i64 q.2,(.slice ta toks.length tc)] 78∧Co w' 80 5 ta tc toks.length (F8 toks)∧(∀x,rb ta=some x→w3.heap.size≤x∧x≠b4)∧AY w3 w') src.length (E4 2 (.pointer (some ⟨b1,0,none⟩)) 3 (.pointer (some ⟨b2,0,none⟩)) 4 (.pointer (some ⟨b3,0,none⟩)) 5 (.pointer (some ⟨b4,0,none⟩))) lE ⟨0,src.length,(1,1),[],none,0,rfl,rfl,rfl,oM,oM,⟨dC,dC,dC,dC⟩,by simp,(Yf _).symm,hb7,GU _ _ _,(λx hx=>by cases hx),hE4⟩ ?_;rintro _ _ _ wl ⟨j,n,q,toks,ta,tc,rfl,rfl,rfl,hjl,hn,hq,htl,hm,hscl,hrow,hlow,hXB⟩;have szl:=hXB.size;have lts:=hscl.lt;replace hX:=hX0.trans hXB;have hb1Bl:=hb1B.ext hXB;have hb2Bl:=hb2B.ext hXB;have hb3Bl:=hb3B.ext hXB;refine Cg<|Cg<|CN<|Aa rfl (A1 rfl)<|A7 rfl (Aw Rw rfl rfl) (IC _ b4 src j q (.slice ta toks.length tc) hscl) ?_;rintro _ w8 ⟨rfl,hE5⟩;replace hb1Bl:=hb1Bl.ext hE5;replace hb2Bl:=hb2Bl.ext hE5;replace hb3Bl:=hb3Bl.ext hE5;replace hscl:=hscl.ext hE5;replace hrow:=hrow.ext hE5;replace hX:=hX.trans hE5;replace hXB:=hXB.trans hE5;have sz4:=hE5.size;refine Ab<|DE<|No rfl (λh2=>?_) (λh2=>?_);refine Iv<|DE<|Es<|CN<|Aa rfl (A1 rfl) ?_;obtain⟨c,hc⟩:=K8 (show j<src.length by have:=of_decide_eq_true h2;omega);obtain⟨n,rfl⟩:∃n1,n=n1+1:=⟨n-1,by have:=Cp hc;omega⟩;refine Ck rfl (Aw qX rfl rfl) (Xp hPF w3 _ (hG.ext hX0) hXB b4 oM src j q toks ta tc hscl hrow hlow c hc hq hlen htl) ?_ (λcc wp hcc tmps hσ=>by obtain⟨e,he,rfl,hE⟩:=hcc;have sz:=hE.size;exact FW (by simp) eO (UX w wp (hX0.trans hE) b1 b2 b3 _ _ _ _ (hb1B.ext hE) (hb2B.ext hE) (hb3B.ext hE) oM oM oM oM oM oM e) (λwz hz=>by rw[KV];obtain⟨h1,h2,h3,h4⟩:=hz;exact Cb hσ (EC rfl (B3 rfl DG h2 rfl) (Ac rfl Hp h3 rfl) (B3 rfl Ws h4 rfl)) ⟨_,rfl,by rw[Jz,if_neg (by rw[decide_eq_true_eq];omega),hm,Wv hc he,UE];exact⟨rfl,h1⟩⟩));rintro _ w9 ⟨ot,i1,p1,ta1,QY,hst,rfl,hsc2,hrow2,hlow2,hX2,hi1,hi2,hp1⟩;have hot:(toks++ot).length≤i1:=by have:=OR hst;rw[List.length_append];omega
 have hm2:=TC hc hst hm;refine Ab<|Ef<|HN (src.length-i1) (E4 2 (.pointer (some ⟨b1,0,none⟩)) 3 (.pointer (some ⟨b2,0,none⟩)) 4 (.pointer (some ⟨b3,0,none⟩)) 5 (.pointer (some ⟨b4,0,none⟩))) oM lE ⟨i1,n,p1,toks++ot,ta1,QY,rfl,rfl,rfl,hi2,oM,hp1,hot,hm2,hsc2,hrow2,hlow2,hX2⟩;refine Lz<|VA<|Nq<|P8<|DE<|Cg<|CN<|Aa rfl (A1 rfl)<|Aa rfl (B8 rfl)<|Aa rfl (BO rfl Di) ?_;refine Aa rfl (Al rfl DG hscl rfl)<|Aa rfl (DV rfl eG Ri rfl)<|A4 rfl rfl rfl DG rfl hb1Bl rfl rfl λw10 hb8 hC4=>?_;replace hb2Bl:=hb2Bl.chg hC4 oM;replace hb3Bl:=hb3Bl.chg hC4 oM;replace hscl:=hscl.chg hC4 oM;replace hrow:=Co.chg hrow hC4 (λe=>by have:=hlow _ e;omega);replace hX:=hX.chg hC4 oM;clear hXB;have sz5:=hC4.size;refine A4 rfl rfl rfl Hp rfl hb2Bl rfl rfl λw11 hb9 hC5=>?_;replace hb8:=hb8.chg hC5 oM;replace hb3Bl:=hb3Bl.chg hC5 oM;replace hscl:=hscl.chg hC5 oM;replace hrow:=Co.chg hrow hC5 (λe=>by have:=hlow _ e;omega);replace hX:=hX.chg hC5 oM;have sz6:=hC5.size;refine A4 rfl rfl rfl Ws rfl hb3Bl rfl rfl λw12 hb10 hC6=>?_;replace hb8:=hb8.chg hC6 oM;replace hb9:=hb9.chg hC6 oM;replace hscl:=hscl.chg hC6 oM;replace hrow:=Co.chg hrow hC6 (λe=>by have:=hlow _ e;omega);replace hX:=hX.chg hC6 oM;have sz7:=hC6.size;refine Ab<|DE<|Kf ?_;intro tmps hσ;refine FW (by simp) eO (Rt _ b1 b2 b3) λwz hz=>?_;have hlx:Jz src=.ok toks:=by rw[Jz,if_neg (by rw[decide_eq_true_eq];omega),hm,Ka (by have:=of_decide_eq_false h2;omega),I1];simp[UE]
 refine Cb hσ (EC rfl (B3 rfl DG (hb8.ext hz) rfl) (Ac rfl Hp (hb9.ext hz) rfl) (B3 rfl Ws (hb10.ext hz) rfl)) ⟨_,rfl,?_⟩;rw[hlx];exact⟨ta,tc,rfl,⟨hrow.ext hz,λx hx=>by have:=hlow x hx;omega⟩,hX.trans hz⟩
end Go.Proofs.YtegedalegfadgaaGreatDoor
namespace Go.SP
open Go.SW Go.RowKit
def H2(l:lU):Prop:=∀c∈l,48≤c.toNat∧c.toNat≤57
def FV(b:lU):Bool→lU→Prop
 |false,rest=>∃a2,rest=a2++46::b∧H2 a2
 |true,rest=>H2 rest∧rest.length≤b.length
variable {dot:Bool}
theorem FV.cons{b r:lU}{c:UInt8}(h:FV b dot (c::r)):(c=46∧dot=false∧r=b)∨((48≤c.toNat∧c.toNat≤57)∧FV b dot r):=by
 cases dot with
 |false =>
   obtain⟨a2,h1,h2⟩:=h
   cases a2 with
   |nil=>left;simp at h1;exact⟨h1.1,rfl,h1.2⟩
   |cons d a3 =>
     right
     simp at h1;exact⟨h1.1▸h2 d (.head _),a3,h1.2,λx hx=>h2 x (.tail _ hx)⟩
 |true=>exact .inr ⟨h.1 c (.head _),λx hx=>h.1 x (.tail _ hx),by have:=h.2;simp only[List.length_cons] at this;omega⟩
theorem FV.nil{b:lU}(h:FV b dot []):dot=true:=by
 cases dot with
 |false=>obtain⟨a2,h1,_⟩:=h;cases a2 <;> cases h1
 |true=>rfl
def JT(l:lU):lU:=l.filter (λc=>c != 46)
theorem TB{l:lU}(h:H2 l):JT l=l:=by
 unfold JT;rw[List.filter_eq_self];intro c hc;have:=h c hc;have h2:c≠46:=λe=>by subst e;revert this;decide
 simpa using h2
theorem Jc{c:UInt8}{l:lU}(h:48≤c.toNat∧c.toNat≤57):JT (c::l)=c::JT l:=by
 unfold JT;rw[List.filter_cons_of_pos];have h2:c≠46:=λe=>by subst e;revert h;decide
 simpa using h2
theorem Pc(l:lU):JT (46::l)=JT l:=by
 unfold JT;rw[List.filter_cons_of_neg];simp
theorem X2{a b:lU}(ha:H2 a)(hb:H2 b):JT (a++46::b)=a++b:=by
 induction a with
 |nil=>rw[List.nil_append,Pc,TB hb,List.nil_append]
 |cons c a ih=>rw[List.cons_append,Jc (ha c (.head _)),ih λx hx=>ha x (.tail _ hx)];rfl
theorem N5(n:Nat)(c:UInt8)(l:lU):Da n (c::l)=Da (n*10+(c.toNat-48)) l:=by conv=>lhs;unfold Da
theorem Yr(n:Nat):Da n []=n:=by conv=>lhs;unfold Da
theorem Pn:∀(l:lU)(n:Nat),n≤Da n l
 | [],n=>Nat.le_refl _
 |c::l,n=>by
   have:=Pn l (n*10+(c.toNat-48));rw[N5];omega
theorem VL:∀(l:lU)(n:Nat),H2 l→Da n l<(n+1)*10 ^ l.length
 | [],n,_=>by
   rw[Yr,List.length_nil,Nat.pow_zero];omega
 |c::l,n,h=>by
   have h1:=h c (.head _);have:=VL l (n*10+(c.toNat-48)) λx hx=>h x (.tail _ hx);rw[N5,List.length_cons,Nat.pow_succ];refine Nat.lt_of_lt_of_le this ?_;have h2:n*10+(c.toNat-48)+1≤(n+1)*10:=oM
   calc (n*10+(c.toNat-48)+1)*10 ^ l.length≤(n+1)*10*10 ^ l.length:=Nat.mul_le_mul_right _ h2
     _=(n+1)*(10 ^ l.length*10):=by rw[Nat.mul_assoc,Nat.mul_comm 10]
theorem Of{l:lU}(h:H2 l)(hl:l.length≤15):Da 0 l<1000000000000000:=by
 have h1:=VL l 0 h;have h2:10 ^ l.length≤10 ^ 15:=Nat.pow_le_pow_right dC hl;have h3:(10:Nat) ^ 15=1000000000000000:=dC;omega
theorem rL:∀n:Fin 58,46≤n.val→IntKind.u8.wrap (BitVec.ofInt 8 (n.val:Int) ||| BitVec.ofInt 8 32).toNat=(n.val:Int):=dC
theorem bY{z:lU}(h:(Lib.cut z [46]).2.2=true):z=(Lib.cut z [46]).1++46::(Lib.cut z [46]).2.1:=by
 unfold Lib.cut at h ⊢
 split at h
 · rename_i h0
   rw[if_pos h0];rcases Lib.index_spec z [46] with ⟨h1,_⟩|⟨i,h1,h2,h3,_⟩
   · omega
   · simp only[h1,Int.toNat_natCast,List.length_cons,List.length_nil]
     unfold Lib.occAt at h3
     cases hd:z.drop i with
     |nil=>rw[hd] at h3;cases h3
     |cons c t =>
       rw[hd] at h3
       have hc:c=46:=by
         have h4:(46:UInt8)=c:=by simpa[List.isPrefixOf] using h3
         exact h4.symm
       have ht:z.drop (i+(0+1))=t:=by
         rw[← List.drop_drop,hd];rfl
       rw[ht,← hc,← hd,List.take_append_drop]
 · cases h
theorem PQ{s a b:lU}(h:Ij s=some (a,b)):H2 a∧H2 b∧a≠[]∧b≠[]∧a.length+b.length≤15∧Bl s=a++46::b:=by
 unfold Ij at h;simp only at h
 split at h
 · rename_i hc
   simp only[Bool.and_eq_true,decide_eq_true_eq] at hc;obtain⟨h1,h2,h3,h4⟩:=hc;simp only[Option.some.injEq,Prod.mk.injEq] at h;obtain⟨rfl,rfl⟩:=h;have d1:=GY h2;have d2:=GY h3;exact⟨d1.2,d2.2,by simpa using d1.1,by simpa using d2.1,oM,bY h1⟩
 · cases h
end Go.SP
namespace Go.SP
variable {j:Nat}
theorem Kk{s r:lU}{c:UInt8}(h:s.drop j=c::r):s.drop (j+1)=r:=by
 rw[← List.drop_drop,h];rfl
theorem QE{s r:lU}{c:UInt8}(h:s.drop j=c::r):s[j]?=some c:=by
 have:(s.drop j)[0]?=some c:=by rw[h];rfl
 simpa using this
theorem Ww(o:Nat){s a b:lU}(ha:H2 a)(hne:a≠[])(hs:s.drop o=a++46::b):∃c,s[((o:Int)+1).toNat]?=some c∧46≤c.toNat∧c.toNat≤57:=by
 have e:((o:Int)+1).toNat=o+1:=oM;rw[e];rcases a with _|⟨x,_|⟨y,a⟩⟩
 · exact absurd rfl hne
 · exact⟨46,QE (r:=b) (Kk (c:=x) (by simpa using hs)),dC,dC⟩
 · have:=ha y (.tail _ (.head _))
   exact⟨y,QE (r:=a++46::b) (Kk (c:=x) (by simpa using hs)),oM,oM⟩
end Go.SP
namespace Go.SP
open Ieee
variable {k:Nat}
theorem Wu{d e:Datum}(h1:d.isNaN=false)(h2:e.isNaN=false∧e.isInfinity=false∧e.isZero=false):∃r,d.quotient k e=some r:=by
 obtain⟨h2,h3,h4⟩:=h2
 cases d with
 |nan s t=>cases h1
 |infinity s=>cases e with
   |nan s t=>cases h2
   |infinity s=>cases h3
   |number s m p=>exact⟨_,rfl⟩
 |number s m p=>cases e with
   |nan s t=>cases h2
   |infinity s=>cases h3
   |number s' m' p' =>
     cases m' with
     |zero=>cases h4
     |succ m'=>exact⟨_,rfl⟩
theorem WI{x:Nat}(h:x % 9223372036854775808≤9218868437227405312):(double.read x).isNaN=false:=by
 unfold Format.read;simp only[show double.signWeight=9223372036854775808 from by decide,show double.infRung=9218868437227405312 from by decide]
 split
 · rfl
 · split
   · rfl
   · split
     · rfl
     · omega
theorem PR(m:Nat):FloatKind.f64.nearest (m:Int)≤9218868437227405312:=by
 unfold FloatKind.nearest FloatKind.encode;have hn:decide ((m:Int)<0)=false:=by simp
 rw[hn];show double.nearest false m 0≤_;unfold Format.nearest
 split
 · decide
 · simp only[Format.word,Bool.false_eq_true,if_false]
   exact Nat.le_trans (Nat.min_le_right _ _) dC
theorem Zx{x:Nat}(h:x≤9218868437227405312):Op.negFloat .f64 x % 9223372036854775808=x:=by
 have e:(9223372036854775808:Nat)=2 ^ 63:=dC;have e2:(FloatKind.f64.format.exponentBits+FloatKind.f64.format.fractionBits)=63:=dC;unfold Op.negFloat;rw[e,e2,Nat.xor_mod_two_pow,Nat.mod_self,Nat.xor_zero,Nat.mod_eq_of_lt (by omega)]
theorem Zp:∀n:Fin 15,(double.read (G9.getD n.val 0)).isNaN=false∧(double.read (G9.getD n.val 0)).isInfinity=false∧(double.read (G9.getD n.val 0)).isZero=false:=by decide +kernel
theorem RY(neg:Bool)(m n:Nat)(hn:n<15):∃r,FloatKind.f64.format.div (if neg then Op.negFloat .f64 (FloatKind.f64.nearest (m:Int)) else FloatKind.f64.nearest (m:Int)) (G9.getD n 0)=some r:=by
 have h1:=PR m
 have h2:(double.read (if neg then Op.negFloat .f64 (FloatKind.f64.nearest (m:Int)) else FloatKind.f64.nearest (m:Int))).isNaN=false:=by
   apply WI
   cases neg with
   |true=>rw[if_pos rfl,Zx h1];exact h1
   |false=>rw[if_neg (by decide),Nat.mod_eq_of_lt (by omega)];exact h1
 obtain⟨r,hr⟩:=Wu (k:=double.fractionBits+2) h2 (Zp ⟨n,hn⟩);exact⟨double.write r,congrArg (Option.map double.write) hr⟩
end Go.SP
namespace Go.SP
variable {n:Nat}
theorem RG(h:n<15):G9[n]?=some (G9.getD n 0):=by
 have hl:n<G9.length:=h;rw[List.getD_eq_getElem?_getD,List.getElem?_eq_getElem hl];rfl
end Go.SP
namespace Go.Proofs.YtegedalegfadgaaGreatDoor
open Go.SW Go.SP Go.RowKit Go.Proofs.Tryz
def pX:Eh:=⟨[],[],[9],[],[],[],[],[]⟩
theorem C5:pX.Ok prog:=⟨tQ,tQ,(And.intro I5 tQ),tQ,tQ,tQ,tQ,tQ⟩
theorem Yk(w:World)(c:UInt8)(r:lU)(hc:48≤c.toNat∧c.toNat≤57) :
  BC prog 191 #[S (c::r),S [105,110,102,105,110,105,116,121]] w λv w'=>v=.int .i64 0∧AY w w':=by
 have hX:=AY.refl w;refine enter func191 rfl rfl rfl<|gP [] C5 11 [] (Ar _) (λ_=>Aa rfl (dD rfl rfl)<|gL [.sq _] C5 10 [] (Ar _) (λ_=>?_));refine Em (λk σ ds w'=>k=1∧ds=[]∧σ=(E4 0 (S (c::r)) 1 (S [105,110,102,105,110,105,116,121]) 5 (.int .i64 (if (((c::r).length:Nat):Int)<(([105,110,102,105,110,105,116,121]:lU).length:Int) then (((c::r).length:Nat):Int) else (([105,110,102,105,110,105,116,121]:lU).length:Int))) 6 (.int .i64 0))∧AY w w') 1 (E4 0 (S (c::r)) 1 (S [105,110,102,105,110,105,116,121]) 5 (.int .i64 (if (((c::r).length:Nat):Int)<(([105,110,102,105,110,105,116,121]:lU).length:Int) then (((c::r).length:Nat):Int) else (([105,110,102,105,110,105,116,121]:lU).length:Int))) 6 (.int .i64 0)) lE ⟨rfl,rfl,rfl,hX⟩ ?_;rintro _ _ _ wl ⟨rfl,rfl,rfl,hX⟩;refine gP [] C5 8 [] (Ar _) (λ_=>sP 15 rfl (λh1=>?_) (λh1=>?_));refine gP [.sq _] C5 9 [] (Ar _) (λ_=>Aa rfl (DB (c:=c) rfl rfl I5 dC rfl)<|gL [.sq _,.bk _,.sq _] C5 9 [] (Ar _) (λ_=>sL 23 rfl (λh2=>?_) (λh2=>?_)))
 ·
  exfalso;have h9:=of_decide_eq_true h2;omega
 refine gL [.sq _,.sq _,.bk _,.sq _] C5 13 [] (Ar _) (λ_=>Aa rfl (DB (c:=105) rfl rfl I5 dC rfl)<|gL [.sq _,.bk _,.sq _] C5 3 [] (Ar _) (λ_=>sP 33 rfl (λh3=>?_) (λh3=>?_)));exact gP [.bk _,.sq _] C5 10 [] (Ar _) (λ_=>W0<|gQ [.bk _,.sq _] C5 2 [] (Ar _) (λ_=>B1 (AJ rfl (Ak rfl))<|⟨rfl,hX⟩))
 ·
  exfalso;exact absurd (show (c.toNat:Int)=105 by simpa using h3) oM
 ·
  exfalso;have h9:=of_decide_eq_false h1;revert h9;simp only[List.length_cons,List.length_nil];split <;> omega
theorem RD(w:World)(c:UInt8)(r:lU)(hc:48≤c.toNat∧c.toNat≤57) :
  BC prog 177 #[S (c::r)] w λv w'=>v=.tuple #[.float .f64 0,.int .i64 0,.bool false]∧AY w w':=by
 have hX:=AY.refl w;refine enter func177 rfl rfl rfl<|gP [] C5 15 [] (Ar _) (λ_=>sP 10 rfl (λh1=>?_) (λh1=>?_))
 ·
  exfalso;have h9:=(beq_iff_eq).1 h1;simp only[List.length_cons] at h9;omega
 refine gP [.sq _] C5 17 [] (Ar _) (λ_=>Aa rfl (DB (c:=c) rfl rfl I5 dC rfl)<|gL [.sq _,.sq _] C5 18 [] (Ar _) (λ_=>sP 13 rfl (λh2=>?_) (λh2=>?_)))
 ·
  exfalso;have h9:=(beq_iff_eq).1 h2;omega
 refine gP [.sq _,.sq _,.sq _,.bk _,.sq _,.bk _,.sq _,.bk _,.sq _,.bk _,.sq _] C5 6 [] (Ar _) (λ_=>sP 13 rfl (λh3=>?_) (λh3=>?_))
 ·
  exfalso;have h9:=(beq_iff_eq).1 h3;omega
 refine gP [.sq _,.sq _,.bk _,.sq _,.bk _,.sq _,.bk _,.sq _,.bk _,.sq _] C5 11 [] (Ar _) (λ_=>sP 16 rfl (λh4=>?_) (λh4=>?_))
 ·
  exfalso;have h9:=(beq_iff_eq).1 h4;omega
 refine gP [.sq _,.sq _,.sq _,.bk _,.sq _,.bk _,.sq _,.bk _,.sq _,.bk _,.sq _] C5 6 [] (Ar _) (λ_=>sP 16 rfl (λh5=>?_) (λh5=>?_))
 ·
  exfalso;have h9:=(beq_iff_eq).1 h5;omega
 refine gP [.sq _,.sq _,.bk _,.sq _,.bk _,.sq _,.bk _,.sq _,.bk _,.sq _] C5 10 [] (Ar _) (λ_=>sP 19 rfl (λh6=>?_) (λh6=>?_))
 ·
  exfalso;have h9:=(beq_iff_eq).1 h6;omega
 refine gP [.sq _,.sq _,.bk _,.sq _,.bk _,.sq _,.bk _,.sq _,.bk _,.sq _] C5 6 [] (Ar _) (λ_=>sP 19 rfl (λh7=>?_) (λh7=>?_))
 ·
  exfalso;have h9:=(beq_iff_eq).1 h7;omega
 exact gP [.sq _,.bk _,.sq _,.bk _,.sq _,.bk _,.sq _,.bk _,.sq _] C5 20 [] (Ar _) (λ_=>B1 (EC rfl (Ak rfl) (Ak rfl) (Ak rfl))<|⟨rfl,hX⟩)
theorem Sp(w:World)(c:UInt8)(r:lU)(hc:48≤c.toNat∧c.toNat≤57) :
  BC prog 177 #[S (45::c::r)] w λv w'=>v=.tuple #[.float .f64 0,.int .i64 0,.bool false]∧AY w w':=by
 have hX:=AY.refl w;refine enter func177 rfl rfl rfl<|gP [] C5 15 [] (Ar _) (λ_=>sP 10 rfl (λh1=>?_) (λh1=>?_))
 ·
  exfalso;have h9:=(beq_iff_eq).1 h1;simp only[List.length_cons] at h9;omega
 refine gP [.sq _] C5 17 [] (Ar _) (λ_=>Aa rfl (DB (c:=45) rfl rfl I5 dC rfl)<|gL [.sq _,.sq _] C5 34 [] (Ar _) (λ_=>Aa rfl (DB (c:=45) rfl rfl I5 dC rfl)<|gL [.sq _,.sq _,.bk _,.sq _,.bk _,.sq _,.bk _,.sq _] C5 15 [] (Ar _) (λ_=>Aa rfl (M0 rfl rfl I5)<|gL [.bk _,.sq _,.bk _,.sq _,.bk _,.sq _] C5 8 [] (Ar _) (λ_=>A7 rfl (Aw lP rfl rfl) (Yk _ c r hc) ?_))));rintro _ w1 ⟨rfl,hE1⟩;replace hX:=hX.trans hE1;have sz1:=hE1.size;exact gL [.sq _,.sq _,.bk _,.sq _,.bk _,.sq _] C5 43 [] (Ar _) (λ_=>B1 (EC rfl (Ak rfl) (Ak rfl) (Ak rfl))<|⟨rfl,hX⟩)
theorem UR(w:World)(c:UInt8)(hc:46≤c.toNat∧c.toNat≤57) :
  BC prog 166 #[.int .u8 c.toNat] w λv w'=>v=.int .u8 c.toNat∧AY w w':=by
 have hX:=AY.refl w;exact enter func166 rfl rfl rfl<|gP [] C5 8 [] (Ar _) (λ_=>Aa rfl (Y1 (c.toNat:Int) rfl rfl (rL ⟨c.toNat,oM⟩ hc.1))<|gL [.sq _] C5 4 [] (Ar _) (λ_=>B1 (AJ rfl (Ak rfl))<|⟨rfl,hX⟩))
def qY:Eh:=⟨[],[],[9],[],[],[],[],[]⟩
theorem AU:qY.Ok prog:=⟨tQ,tQ,(And.intro I5 tQ),tQ,tQ,tQ,tQ,tQ⟩
theorem O8(w:World)(s:lU)(a b:lU)(ha:H2 a)(hb:H2 b)(hane:a≠[])(hbne:b≠[])(hab:a.length+b.length≤15)(neg:Bool)(hs:s=(bif neg then [45] else [])++(a++46::b)) :
  BC prog 178 #[S s] w λv w'=>v=.tuple #[.int .u64 (Da 0 (a++b):Int),.int .i64 (if Da 0 (a++b)=0 then 0 else -(b.length:Int)),.bool neg,.bool false,.bool false,.int .i64 (s.length:Int),.bool true]∧AY w w':=by
 have hal:1≤a.length:=List.length_pos_iff.2 hane;have hbl:1≤b.length:=List.length_pos_iff.2 hbne
 obtain⟨a0,ar,hae⟩:∃c r,a=c::r:=by
  cases a with
  |nil=>exact absurd rfl hane
  |cons c r=>exact⟨c,r,rfl⟩
 obtain⟨o,ho,ho1⟩:∃o,(bif neg then 1 else 0:Nat)=o∧o≤1:=⟨_,rfl,by cases neg <;> decide⟩;have hso:s.drop o=a++46::b:=by subst ho;rw[hs];cases neg <;> rfl
 have hlo:s.length=o+(a.length+(b.length+1)):=by subst ho;rw[hs];cases neg <;> simp <;> omega
 obtain⟨c0,hc0,hcn⟩:∃c:UInt8,s[0]?=some c∧(c.toNat=45∧neg=true∨(48≤c.toNat∧c.toNat≤57)∧neg=false):=by
  cases neg with
  |true=>exact⟨45,by rw[hs];rfl,.inl ⟨rfl,rfl⟩⟩
  |false=>exact⟨a0,by rw[hs,hae];rfl,.inr ⟨ha a0 (hae▸List.mem_cons_self),rfl⟩⟩
 have ha0:s[o]?=some a0:=by rw[← Nat.add_zero o,← List.getElem?_drop,hso,hae];rfl
 obtain⟨a1,ha1,ha1d⟩:=Ww (s:=s) (b:=b) o ha hane hso;have hX:=AY.refl w;refine enter func178 rfl rfl rfl<|gP [] AU 11 [] (Ar _) (λ_=>Wy<|gP [] AU 14 [] (Ar _) (λ_=>sP 24 rfl (λh1=>?_) (λh1=>?_)))
 ·
  exfalso;have h9:=of_decide_eq_true h1;omega
 refine gP [.sq _] AU 3 [] (Ar _) (λ_=>Qd (E9 0 (S s) 2 (.int .u64 0) 3 (.int .i64 0) 4 (.bool neg) 5 (.bool false) 6 (.bool false) 7 (.int .i64 (o:Int)) 8 (.bool false) 9 (.bool false)) (λw'=>AY w w') ?_ ?_);refine gP [] AU 4 [] (Ar _) (λ_=>Aa rfl (DB (c:=c0) rfl rfl I5 dC hc0)<|gL [.sq _] AU 9 [] (Ar _) (λ_=>sP 28 rfl (λh2=>?_) (λh2=>?_)))
 ·
  exfalso;have h9:=(beq_iff_eq).1 h2;omega
 refine gP [.bk _] AU 7 [] (Ar _) (λ_=>sP 32 rfl (λh3=>?_) (λh3=>?_));refine gP [.bk _] AU 2 [] (Ar _) (λ_=>?_);obtain rfl:neg=true:=by have h9:(c0.toNat:Int)=45:=(beq_iff_eq).1 h3;rcases hcn with h|h;exact h.2;omega
 subst ho;exact gP [.sq _,.bk _] AU 2 [] (Ar _) (λ_=>Aa rfl (MV (1) rfl rfl dC)<|gL [.sq _,.bk _] AU 7 [] (Ar _) (λ_=>Py lE hX));obtain rfl:neg=false:=by have h9:¬(c0.toNat:Int)=45:=(by simpa using h3);rcases hcn with h|h;omega;exact h.2
 subst ho;exact gP [.bk _] AU 3 [] (Ar _) (λ_=>Py lE hX);rintro wl hX;refine gP [] AU 15 [] (Ar _) (λ_=>Qd (pY 0 (S s) 2 (.int .u64 0) 3 (.int .i64 0) 4 (.bool neg) 5 (.bool false) 6 (.bool false) 7 (.int .i64 (o:Int)) 8 (.bool false) 9 (.bool false) 10 (.int .u64 10) 11 (.int .i64 19)) (λw'=>AY w w') ?_ ?_);refine gP [] AU 8 [] (Ar _) (And.intro ⟨oM,oM⟩<|λ_=>sL 41 rfl (λh4=>?_) (λh4=>?_));refine gL [.sq _] AU 2 [] (Ar _) (λ_=>BI rfl rfl rfl<|Aa rfl (DB (c:=a0) rfl rfl I5 oM (by rw[Int.toNat_natCast];exact ha0))<|gL [.sq _] AU 3 [] (Ar _) (λ_=>sL 47 rfl (λh5=>?_) (λh5=>?_)));refine gL [.sq _] AU 3 [] (Ar _) (And.intro ⟨oM,oM⟩<|λ_=>BI rfl rfl rfl<|Aa rfl (DB (c:=a1) rfl rfl I5 oM ha1)<|BI rfl rfl rfl<|A7 rfl (Aw jG rfl rfl) (UR _ a1 ha1d) ?_);rintro _ w1 ⟨rfl,hE1⟩;replace hX:=hX.trans hE1;have sz1:=hE1.size;refine gL [.sq _] AU 4 [] (Ar _) (λ_=>sP 54 rfl (λh6=>?_) (λh6=>?_))
 ·
  exfalso;have h9:=(beq_iff_eq).1 h6;omega
 exact gP [] AU 2 [] (Ar _) (λ_=>Py lE hX);exact gL [.sq _] AU 11 [] (Ar _) (λ_=>Py lE hX)
 ·
  exfalso;have h9:=of_decide_eq_false h4;omega
 rintro wl hX;refine gP [] AU 26 [] (Ar _) (λ_=>Wp<|gQ [.sq _] AU 3 [] (Ar _) (λ_=>?_));refine Em (λk σ ds w'=>∃(j m nd:Nat)(dp:Int)(dot sd:Bool)(rest:lU),k=rest.length∧ds=[]∧σ=(nQ 0 (S s) 2 (.int .u64 (m:Int)) 3 (.int .i64 0) 4 (.bool neg) 5 (.bool false) 6 (.bool false) 7 (.int .i64 (j:Int)) 8 (.bool false) 9 (.bool false) 10 (.int .u64 10) 11 (.int .i64 19) 13 (.bool dot) 14 (.bool sd) 15 (.int .i64 (nd:Int)) 16 (.int .i64 (nd:Int)) 17 (.int .i64 dp))∧s.drop j=rest∧j+rest.length=s.length∧FV b dot rest∧Da 0 (a++b)=Da m (JT rest)∧(dot=true→dp=(nd:Int)-((b.length:Int)-rest.length))∧nd≤j ∧ -(j:Int)≤dp∧dp≤j∧(nd=0↔m=0)∧(sd=true∨rest=a++46::b)∧AY w w') (a++46::b).length (nQ 0 (S s) 2 (.int .u64 ((0:Nat):Int)) 3 (.int .i64 0) 4 (.bool neg) 5 (.bool false) 6 (.bool false) 7 (.int .i64 (o:Int)) 8 (.bool false) 9 (.bool false) 10 (.int .u64 10) 11 (.int .i64 19) 13 (.bool false) 14 (.bool false) 15 (.int .i64 ((0:Nat):Int)) 16 (.int .i64 ((0:Nat):Int)) 17 (.int .i64 0)) lE ⟨o,0,0,0,false,false,a++46::b,rfl,rfl,rfl,hso,by rw[hlo];simp <;> omega,⟨a,rfl,ha⟩,by rw[X2 ha hb],(λh=>by cases h),oM,oM,oM,by simp,.inr rfl,hX⟩ ?_;rintro _ _ _ wl ⟨j,m,nd,dp,dot,sd,rest,rfl,rfl,rfl,hdr,hjr,hfv,hdec,hdp,hnd,hd1,hd2,hnm,hsd,hX⟩;have hml:m<1000000000000000:=by have h1:=Pn (JT rest) m;have h2:=Of (l:=a++b) (λx hx=>(List.mem_append.1 hx).elim (ha x) (hb x)) (by rw[List.length_append];exact hab);omega
 have hsl:s.length≤17:=oM;refine gP [] AU 9 [] (Ar _) (λ_=>sP 60 rfl (λh7=>?_) (λh7=>?_));refine gP [.sq _] AU 7 [] (Ar _) (λ_=>?_);rcases rest with _|⟨c,r⟩
 · exfalso;have h9:=of_decide_eq_true h7;simp at hjr;omega
 have hcj:s[j]?=some c:=QE hdr;have hcl:=hfv.cons;have hc46:46≤c.toNat∧c.toNat≤57:=hcl.elim (λh=>by rw[h.1];decide) (λh=>by omega);refine gP [.sq _,.sq _,.bk _,.sq _] AU 3 [] (Ar _) (λ_=>Aa rfl (DB (c:=c) rfl rfl I5 oM (by rw[Int.toNat_natCast];exact hcj))<|gL [.sq _,.sq _,.bk _,.sq _] AU 8 [] (Ar _) (λ_=>Aa rfl (Qw vF rfl rfl)<|gL [.sq _,.bk _,.sq _,.bk _,.sq _] AU 3 [] (Ar _) (λ_=>sP 66 rfl (λh8=>?_) (λh8=>?_))))
 ·
  exfalso;have h9:=(beq_iff_eq).1 h8;omega
 refine gP [.bk _,.sq _,.bk _,.sq _] AU 5 [] (Ar _) (λ_=>Aa rfl (Qw vF rfl rfl)<|gL [.sq _,.bk _,.sq _,.bk _,.sq _] AU 3 [] (Ar _) (λ_=>sP 70 rfl (λh9=>?_) (λh9=>?_)));refine gP [.bk _,.sq _,.bk _,.sq _] AU 3 [] (Ar _) (λ_=>?_);have hc6:(c.toNat:Int)=46:=by simpa using h9
 obtain⟨hc6,hdf,hrb⟩:c=46∧dot=false∧r=b:=hcl.elim id (λh=>by omega);replace hrb:=hrb.symm;subst hdf hrb hc6;have hsd2:sd=true:=hsd.resolve_right (λh=>by cases a with|nil=>exact hane rfl|cons x a=>simp at h;have:=ha x (.head _);rw[← h.1] at this;revert this;decide);refine gP [.sq _,.sq _,.bk _,.sq _,.bk _,.sq _] AU 28 [] (Ar _) (And.intro ⟨oM,oM⟩<|λ_=>HN b.length (nQ 0 (S s) 2 (.int .u64 (m:Int)) 3 (.int .i64 0) 4 (.bool neg) 5 (.bool false) 6 (.bool false) 7 (.int .i64 ((j+1:Nat):Int)) 8 (.bool false) 9 (.bool false) 10 (.int .u64 10) 11 (.int .i64 19) 13 (.bool true) 14 (.bool sd) 15 (.int .i64 (nd:Int)) 16 (.int .i64 (nd:Int)) 17 (.int .i64 (nd:Int))) (by simp) lE ⟨j+1,m,nd,(nd:Int),true,sd,b,rfl,rfl,rfl,Kk hdr,by simp only[List.length_cons] at hjr;omega,⟨hb,Nat.le_refl _⟩,by rw[hdec,Pc],(λ_=>by omega),oM,oM,oM,hnm,.inl hsd2,hX⟩);refine gP [.bk _,.sq _,.bk _,.sq _] AU 2 [] (Ar _) (λ_=>?_);have hn6:(c.toNat:Int)≠46:=by simpa using h9
 obtain⟨hcd,hfr⟩:(48≤c.toNat∧c.toNat≤57)∧FV b dot r:=hcl.elim (λh=>absurd (by rw[h.1];rfl) hn6) id;refine gP [.sq _,.bk _,.sq _,.bk _,.sq _] AU 4 [] (Ar _) (λ_=>sL 79 rfl (λh10=>?_) (λh10=>?_));refine gL [.sq _,.bk _,.sq _,.bk _,.sq _] AU 3 [] (Ar _) (λ_=>Aa rfl (Qw vF rfl rfl)<|gL [.sq _,.bk _,.sq _,.bk _,.sq _] AU 3 [] (Ar _) (λ_=>sP 76 rfl (λh11=>?_) (λh11=>?_)));refine gP [.bk _,.sq _,.bk _,.sq _] AU 12 [] (Ar _) (λ_=>sL 86 rfl (λh12=>?_) (λh12=>?_));refine gL [.sq _,.sq _,.bk _,.sq _,.bk _,.sq _] AU 5 [] (Ar _) (λ_=>sP 89 rfl (λh13=>?_) (λh13=>?_));refine gP [.sq _,.bk _,.sq _,.bk _,.sq _] AU 19 [] (Ar _) (And.intro ⟨oM,oM⟩<|And.intro ⟨oM,oM⟩<|λ_=>?_);have hm0:m=0:=hnm.1 (by have:=h13;simp at this;omega);have hc0:c.toNat=48:=by have:=h12;simp at this;omega
 refine HN r.length (nQ 0 (S s) 2 (.int .u64 (m:Int)) 3 (.int .i64 0) 4 (.bool neg) 5 (.bool false) 6 (.bool false) 7 (.int .i64 ((j+1:Nat):Int)) 8 (.bool false) 9 (.bool false) 10 (.int .u64 10) 11 (.int .i64 19) 13 (.bool dot) 14 (.bool true) 15 (.int .i64 (nd:Int)) 16 (.int .i64 (nd:Int)) 17 (.int .i64 (dp-1))) (by simp) lE ⟨j+1,m,nd,dp-1,dot,true,r,rfl,rfl,rfl,Kk hdr,by simp only[List.length_cons] at hjr;omega,hfr,by rw[hdec,Jc hcd,N5,hc0,hm0],(λh=>by have h1:=hdp h;simp only[List.length_cons] at h1;omega),oM,oM,oM,hnm,.inl rfl,hX⟩;refine gP [.sq _,.bk _,.sq _,.bk _,.sq _] AU 4 [] (Ar _) (λ_=>?_)
 have hnz:¬(m*10+(c.toNat-48)=0):=by
  intro h9;have hm9:m=0:=oM;have hn9:=hnm.2 hm9;have h8:=h13;simp at h8;omega
 refine gP [.sq _,.bk _,.sq _,.bk _,.sq _] AU 14 [] (Ar _) (And.intro ⟨oM,oM⟩<|λ_=>sP 96 rfl (λh14=>?_) (λh14=>?_));refine gP [.sq _,.bk _,.sq _,.bk _,.sq _] AU 5 [] (Ar _) (λ_=>Aa rfl (Q1 ((m:Int)*10) rfl rfl (HX ⟨oM,oM⟩))<|gL [.sq _,.sq _,.bk _,.sq _,.bk _,.sq _] AU 7 [] (Ar _) (λ_=>Aa rfl (Gn ((c.toNat:Int)-48) rfl rfl (Vt ⟨oM,oM⟩))<|Aa rfl (D3 (m:=(c.toNat:Int)-48) rfl UT (HX ⟨oM,oM⟩))<|Aa rfl (MV ((m:Int)*10+((c.toNat:Int)-48)) rfl rfl (HX ⟨oM,oM⟩))<|gL [.sq _,.sq _,.bk _,.sq _,.bk _,.sq _] AU 19 [] (Ar _) (And.intro ⟨oM,oM⟩<|And.intro ⟨oM,oM⟩<|λ_=>?_)));have hme:(m:Int)*10+((c.toNat:Int)-48)=((m*10+(c.toNat-48):Nat):Int):=oM;refine HN r.length (nQ 0 (S s) 2 (.int .u64 ((m*10+(c.toNat-48):Nat):Int)) 3 (.int .i64 0) 4 (.bool neg) 5 (.bool false) 6 (.bool false) 7 (.int .i64 ((j+1:Nat):Int)) 8 (.bool false) 9 (.bool false) 10 (.int .u64 10) 11 (.int .i64 19) 13 (.bool dot) 14 (.bool true) 15 (.int .i64 ((nd+1:Nat):Int)) 16 (.int .i64 ((nd+1:Nat):Int)) 17 (.int .i64 dp)) (by simp) (qD rfl (hme▸rfl) rfl rfl rfl rfl rfl rfl rfl rfl rfl rfl rfl rfl rfl rfl) ⟨j+1,m*10+(c.toNat-48),nd+1,dp,dot,true,r,rfl,rfl,rfl,Kk hdr,by simp only[List.length_cons] at hjr;omega,hfr,by rw[hdec,Jc hcd,N5],(λh=>by have h1:=hdp h;simp only[List.length_cons] at h1;omega),oM,oM,oM,⟨λh=>by omega,λh=>?_⟩,.inl rfl,hX⟩;exfalso;have hz:=hnz;omega
 ·
  exfalso;have h9:=of_decide_eq_false h14;omega
 refine gL [.sq _,.sq _,.bk _,.sq _,.bk _,.sq _] AU 9 [] (Ar _) (λ_=>?_)
 have hnz:¬(m*10+(c.toNat-48)=0):=by
  intro h9;have hm9:m=0:=oM;have hn9:=hnm.2 hm9;have h8:=h12;simp at h8;omega
 refine gP [.sq _,.bk _,.sq _,.bk _,.sq _] AU 14 [] (Ar _) (And.intro ⟨oM,oM⟩<|λ_=>sP 96 rfl (λh15=>?_) (λh15=>?_));refine gP [.sq _,.bk _,.sq _,.bk _,.sq _] AU 5 [] (Ar _) (λ_=>Aa rfl (Q1 ((m:Int)*10) rfl rfl (HX ⟨oM,oM⟩))<|gL [.sq _,.sq _,.bk _,.sq _,.bk _,.sq _] AU 7 [] (Ar _) (λ_=>Aa rfl (Gn ((c.toNat:Int)-48) rfl rfl (Vt ⟨oM,oM⟩))<|Aa rfl (D3 (m:=(c.toNat:Int)-48) rfl UT (HX ⟨oM,oM⟩))<|Aa rfl (MV ((m:Int)*10+((c.toNat:Int)-48)) rfl rfl (HX ⟨oM,oM⟩))<|gL [.sq _,.sq _,.bk _,.sq _,.bk _,.sq _] AU 19 [] (Ar _) (And.intro ⟨oM,oM⟩<|And.intro ⟨oM,oM⟩<|λ_=>?_)));have hme:(m:Int)*10+((c.toNat:Int)-48)=((m*10+(c.toNat-48):Nat):Int):=oM;refine HN r.length (nQ 0 (S s) 2 (.int .u64 ((m*10+(c.toNat-48):Nat):Int)) 3 (.int .i64 0) 4 (.bool neg) 5 (.bool false) 6 (.bool false) 7 (.int .i64 ((j+1:Nat):Int)) 8 (.bool false) 9 (.bool false) 10 (.int .u64 10) 11 (.int .i64 19) 13 (.bool dot) 14 (.bool true) 15 (.int .i64 ((nd+1:Nat):Int)) 16 (.int .i64 ((nd+1:Nat):Int)) 17 (.int .i64 dp)) (by simp) (qD rfl (hme▸rfl) rfl rfl rfl rfl rfl rfl rfl rfl rfl rfl rfl rfl rfl rfl) ⟨j+1,m*10+(c.toNat-48),nd+1,dp,dot,true,r,rfl,rfl,rfl,Kk hdr,by simp only[List.length_cons] at hjr;omega,hfr,by rw[hdec,Jc hcd,N5],(λh=>by have h1:=hdp h;simp only[List.length_cons] at h1;omega),oM,oM,oM,⟨λh=>by omega,λh=>?_⟩,.inl rfl,hX⟩;exfalso;have hz:=hnz;omega
 ·
  exfalso;have h9:=of_decide_eq_false h15;omega
 ·
  exfalso;have h9:=of_decide_eq_false h11;omega
 ·
  exfalso;have h9:=of_decide_eq_false h10;omega
 refine gP [.sq _] AU 3 [] (Ar _) (λ_=>Nq<|gQ [.bk _,.sq _] AU 4 [] (Ar _) (λ_=>?_));have hrn:rest=[]:=by cases rest with|nil=>rfl|cons x r=>exfalso;have h9:=of_decide_eq_false h7;simp only[List.length_cons] at hjr;omega
 subst hrn;have hdt:=hfv.nil;subst hdt;have hst:sd=true:=hsd.resolve_right (λh=>by cases a <;> cases h);subst hst;have hdp2:=hdp rfl;simp only[List.length_nil] at hdp2 hjr;have hM:Da 0 (a++b)=m:=by rw[hdec];exact Yr m
 refine gP [.sq _,.sq _] AU 36 [] (Ar _) (λ_=>sL 154 rfl (λEe=>?_) (λEe=>?_))
 ·
  exfalso;have h9:=of_decide_eq_true Ee;omega
 refine gL [.sq _,.sq _] AU 26 [] (Ar _) (λ_=>sP 241 rfl (λh17=>?_) (λh17=>?_));exact gP [.sq _] AU 30 [] (Ar _) (And.intro ⟨oM,oM⟩<|λ_=>fU<|B1 (eJ rfl (Ak rfl) (Ak rfl) (Ak rfl) (Ak rfl) (Ak rfl) (Ak rfl) (Ak rfl))<|⟨by rw[if_neg (by rw[hM];have h9:=h17;simp at h9;omega),hM,show dp-(nd:Int) = -(b.length:Int) by omega,show ((j:Nat):Int)=(s.length:Int) by omega],hX⟩);exact gP [.sq _] AU 25 [] (Ar _) (λ_=>fU<|B1 (eJ rfl (Ak rfl) (Ak rfl) (Ak rfl) (Ak rfl) (Ak rfl) (Ak rfl) (Ak rfl))<|⟨by rw[if_pos (by rw[hM];have h9:=h17;simp at h9;omega),hM,show ((j:Nat):Int)=(s.length:Int) by omega],hX⟩)
def rO:Eh:=⟨[(268,0,0)],[],[9],[],[],[],[],[]⟩
theorem Bw:rO.Ok prog:=⟨(And.intro dR tQ),tQ,(And.intro I5 tQ),tQ,tQ,tQ,tQ,tQ⟩
theorem mI:Extern.findNext Tryz.f187=none:=kR
theorem lK:Extern.find Tryz.f187=some Extern.MathFloatBits.float64frombits:=kR
theorem Xw:uV prog 23 182=some .f64:=kR
theorem T8(w:World)(hG:Gl w)(m n:Nat)(neg:Bool)(hm:m<1000000000000000)(hn:1≤n∧n≤14) :
  BC prog 188 #[.int .u64 (m:Int),.int .i64 (-(n:Int)),.bool neg] w λv w'=>v=.tuple #[.float .f64 ((FloatKind.f64.format.div (if neg then Op.negFloat .f64 (FloatKind.f64.nearest (m:Int)) else FloatKind.f64.nearest (m:Int)) (G9.getD n 0)).getD 0),.bool true]∧AY w w':=by
 obtain⟨pb,po,pn,pc,hp1,hp2,hp3⟩:=hG.pow10;have hX:=AY.refl w;refine enter func188 rfl rfl rfl<|gP [] Bw 11 [] (Ar _) (λ_=>Aa rfl (IE rfl rB (hG.ext hX).finfo)<|Aa rfl (V4 0 rfl rfl dC (by rw[show min (52:Int).toNat IntKind.u64.bits=52 by decide,Sh,Nat.div_eq_of_lt (by omega)];rfl))<|gL [.sq _,.sq _] Bw 9 [] (Ar _) (λ_=>Aa rfl (kE rfl Xw)<|gL [.sq _] Bw 9 [] (Ar _) (λ_=>sP 15 rfl (λh1=>?_) (λh1=>?_))));refine gP [.sq _] Bw 3 [] (Ar _) (λ_=>Aa rfl (cV rfl)<|gL [.sq _] Bw 12 [] (Ar _) (λ_=>sP 18 rfl (λh2=>?_) (λh2=>?_)))
 ·
  exfalso;have h9:=(beq_iff_eq).1 h2;omega
 refine gP [.bk _,.sq _] Bw 6 [] (Ar _) (λ_=>sL 25 rfl (λh3=>?_) (λh3=>?_))
 ·
  exfalso;have h9:=of_decide_eq_true h3;omega
 refine gL [.sq _,.bk _,.sq _] Bw 12 [] (Ar _) (λ_=>sL 53 rfl (λh4=>?_) (λh4=>?_));refine gL [.sq _,.bk _,.sq _] Bw 6 [] (Ar _) (λ_=>sP 50 rfl (λh5=>?_) (λh5=>?_));refine gP [.bk _,.sq _] Bw 2 [] (Ar _) (λ_=>?_);obtain⟨r,hr⟩:=RY neg m n oM;rw[h1] at hr;simp only[Bool.false_eq_true,if_true,if_false] at hr;have hpn:=RG (show n<15 by omega);refine gP [.sq _,.bk _,.sq _] Bw 2 [] (Ar _) (λ_=>Aa rfl (IE rfl fF (EM hp1 hX))<|Aa rfl (A1 rfl)<|Aa rfl (Lx (n:Int) rfl (by rw[Ji ⟨by omega,by omega⟩];omega))<|Aa rfl (KN (i:=n) rfl rfl gH oM)<|Aa rfl (IE rfl gI (by rw[Nat.mul_one];exact EM (hp3 n _ hpn) hX))<|Aa rfl (V7 rfl rfl hr)<|gL [.sq _,.bk _,.sq _] Bw 7 [] (Ar _) (λ_=>B1 (Cu rfl (Ak rfl) (Ak rfl))<|⟨?_,hX⟩));rw[h1];simp only[Bool.false_eq_true,if_true,if_false];rw[hr];rfl
 ·
  exfalso;have h9:=of_decide_eq_false h5;omega
 ·
  exfalso;have h9:=of_decide_eq_false h4;omega
 refine gP [.sq _] Bw 12 [] (Ar _) (λ_=>sP 18 rfl (λh6=>?_) (λh6=>?_))
 ·
  exfalso;have h9:=(beq_iff_eq).1 h6;omega
 refine gP [.bk _,.sq _] Bw 6 [] (Ar _) (λ_=>sL 25 rfl (λh7=>?_) (λh7=>?_))
 ·
  exfalso;have h9:=of_decide_eq_true h7;omega
 refine gL [.sq _,.bk _,.sq _] Bw 12 [] (Ar _) (λ_=>sL 53 rfl (λh8=>?_) (λh8=>?_));refine gL [.sq _,.bk _,.sq _] Bw 6 [] (Ar _) (λ_=>sP 50 rfl (λh9=>?_) (λh9=>?_));refine gP [.bk _,.sq _] Bw 2 [] (Ar _) (λ_=>?_);obtain⟨r,hr⟩:=RY neg m n oM;rw[h1] at hr;simp only[Bool.false_eq_true,if_true,if_false] at hr;have hpn:=RG (show n<15 by omega);refine gP [.sq _,.bk _,.sq _] Bw 2 [] (Ar _) (λ_=>Aa rfl (IE rfl fF (EM hp1 hX))<|Aa rfl (A1 rfl)<|Aa rfl (Lx (n:Int) rfl (by rw[Ji ⟨by omega,by omega⟩];omega))<|Aa rfl (KN (i:=n) rfl rfl gH oM)<|Aa rfl (IE rfl gI (by rw[Nat.mul_one];exact EM (hp3 n _ hpn) hX))<|Aa rfl (V7 rfl rfl hr)<|gL [.sq _,.bk _,.sq _] Bw 7 [] (Ar _) (λ_=>B1 (Cu rfl (Ak rfl) (Ak rfl))<|⟨?_,hX⟩));rw[h1];simp only[Bool.false_eq_true,if_true,if_false];rw[hr];rfl
 ·
  exfalso;have h9:=of_decide_eq_false h9;omega
 ·
  exfalso;have h9:=of_decide_eq_false h8;omega
theorem Uz(w:World)(neg:Bool) :
  BC prog 186 #[.bool neg] w λv w'=>v=.int .u64 (if neg then 1 else 0)∧AY w w':=by
 have hX:=AY.refl w;refine enter func186 rfl rfl rfl<|gP [] Bw 11 [] (Ar _) (λ_=>sP 3 rfl (λh1=>?_) (λh1=>?_));exact gP [.sq _] Bw 8 [] (Ar _) (λ_=>B1 (AJ rfl (Ak rfl))<|⟨by rw[h1];rfl,hX⟩);exact gP [.sq _] Bw 9 [] (Ar _) (λ_=>B1 (AJ rfl (Ak rfl))<|⟨by rw[h1];rfl,hX⟩)
theorem Td(w:World)(s a b:lU)(neg:Bool)(ha:H2 a)(hane:a≠[])(hs:s=if neg then 45::(a++46::b) else a++46::b) :
  BC prog 177 #[S s] w λv w'=>v=.tuple #[.float .f64 0,.int .i64 0,.bool false]∧AY w w':=by
 cases a with
 |nil=>exact absurd rfl hane
 |cons c r =>
  have hc:=ha c (.head _)
  cases neg with
  |true=>rw[hs];exact Sp w c (r++46::b) hc
  |false=>rw[hs];exact RD w c (r++46::b) hc
theorem OP(w:World)(s a b:lU)(neg:Bool)(ha:H2 a)(hb:H2 b)(hane:a≠[])(hbne:b≠[])(hab:a.length+b.length≤15)(hs:s=if neg then 45::(a++46::b) else a++46::b) :
  BC prog 178 #[S s] w λv w'=>v=.tuple #[.int .u64 (Da 0 (a++b):Int),.int .i64 (if Da 0 (a++b)=0 then 0 else -(b.length:Int)),.bool neg,.bool false,.bool false,.int .i64 (s.length:Int),.bool true]∧AY w w':=by
 cases neg with
 |true=>exact O8 w s a b ha hb hane hbne hab true hs
 |false=>exact O8 w s a b ha hb hane hbne hab false hs
theorem S0(w:World)(hG:Gl w)(s:lU)(a b:lU)(ha:H2 a)(hb:H2 b)(hane:a≠[])(hbne:b≠[])(hab:a.length+b.length≤15)(neg:Bool)(hs:s=if neg then 45::(a++46::b) else a++46::b) :
  BC prog 171 #[S s] w λv w'=>v=.tuple #[.float .f64 (M5 neg a b),.int .i64 (s.length:Int),.nilIface]∧AY w w':=by
 have hal:1≤a.length:=List.length_pos_iff.2 hane;have hbl:1≤b.length:=List.length_pos_iff.2 hbne;have hML:=Of (l:=a++b) (λx hx=>(List.mem_append.1 hx).elim (ha x) (hb x)) (by rw[List.length_append];exact hab);have hX:=AY.refl w;refine enter func171 rfl rfl rfl<|gP [] Bw 11 [] (Ar _) (λ_=>A7 rfl (Aw lT rfl rfl) (Td _ s a b neg ha hane hs) ?_);rintro _ w1 ⟨rfl,hE1⟩;replace hX:=hX.trans hE1;have sz1:=hE1.size;refine gL [.sq _,.sq _] Bw 20 [] (Ar _) (λ_=>A7 rfl (Aw jC rfl rfl) (OP _ s a b neg ha hb hane hbne hab hs) ?_);rintro _ w2 ⟨rfl,hE2⟩;replace hX:=hX.trans hE2;have sz2:=hE2.size;refine gL [.sq _] Bw 39 [] (Ar _) (λ_=>Aa rfl (IE rfl gS (hG.ext hX).optimize)<|gL [.sq _,.sq _] Bw 6 [] (Ar _) (λ_=>A7 rfl (Aw kM rfl rfl) (Uz _ neg) ?_));rintro _ w3 ⟨rfl,hE3⟩;replace hX:=hX.trans hE3;have sz3:=hE3.size;refine Aa rfl (K0 (if neg then 9223372036854775808 else 0) rfl rfl dC (by cases neg <;> decide))<|gL [.sq _,.sq _] Bw 10 [] (Ar _) (λ_=>sP 69 rfl (λh1=>?_) (λh1=>?_));refine gP [.sq _,.sq _] Bw 4 [] (Ar _) (λ_=>Aa rfl (Y1 (if neg then 9223372036854775808 else 0) rfl rfl (by cases neg <;> decide))<|Aa rfl (Za func187 rfl rfl mI lK rfl rfl rfl)<|gL [.sq _,.sq _,.sq _] Bw 9 [] (Ar _) (λ_=>B1 (EC rfl (Ak rfl) (Ak rfl) (Ak rfl)) ?_));have hM0:Da 0 (a++b)=0:=by have h9:=(beq_iff_eq).1 h1;omega
 exact⟨by cases neg <;> simp[M5,hM0],hX⟩;refine gP [.sq _,.sq _] Bw 10 [] (Ar _) (λ_=>sP 75 rfl (λh2=>?_) (λh2=>?_))
 ·
  exfalso;have h9:=of_decide_eq_true h2;revert h9;split <;> omega
 refine gP [.sq _,.sq _] Bw 10 [] (Ar _) (λ_=>sP 82 rfl (λh3=>?_) (λh3=>?_))
 ·
  exfalso;have h9:=of_decide_eq_true h3;revert h9;split <;> omega
 refine gP [.sq _,.sq _] Bw 16 [] (Ar _) (λ_=>?_);have hM0:¬Da 0 (a++b)=0:=by have h9:=h1;simp at h9;omega
 refine A7 rfl (Aw lR rfl rfl) ((show (if Da 0 (a++b)=0 then (0:Int) else -(b.length:Int)) = -(b.length:Int) from if_neg hM0)▸T8 _ (hG.ext hX) (Da 0 (a++b)) b.length neg hML oM) ?_;rintro _ w4 ⟨rfl,hE4⟩;replace hX:=hX.trans hE4;have sz4:=hE4.size;exact gL [.sq _,.sq _,.sq _] Bw 25 [] (Ar _) (λ_=>B1 (EC rfl (Ak rfl) (Ak rfl) (Ak rfl))<|⟨by rw[M5,if_neg hM0],hX⟩)
theorem Jy(w:World)(hG:Gl w)(s:lU)(a b:lU)(ha:H2 a)(hb:H2 b)(hane:a≠[])(hbne:b≠[])(hab:a.length+b.length≤15)(neg:Bool)(hs:s=if neg then 45::(a++46::b) else a++46::b) :
  BC prog 156 #[S s,.int .i64 64] w λv w'=>v=.tuple #[.float .f64 (M5 neg a b),.int .i64 (s.length:Int),.nilIface]∧AY w w':=by
 have hX:=AY.refl w;refine enter func156 rfl rfl rfl<|gP [] Bw 20 [] (Ar _) (λ_=>A7 rfl (Aw jP rfl rfl) (S0 _ (hG.ext hX) s a b ha hb hane hbne hab neg hs) ?_);rintro _ w1 ⟨rfl,hE1⟩;replace hX:=hX.trans hE1;have sz1:=hE1.size;exact gL [.sq _] Bw 9 [] (Ar _) (λ_=>B1 (EC rfl (Ak rfl) (Ak rfl) (Ak rfl))<|⟨rfl,hX⟩)
theorem LU(w:World)(hG:Gl w)(s:lU)(a b:lU)(ha:H2 a)(hb:H2 b)(hane:a≠[])(hbne:b≠[])(hab:a.length+b.length≤15)(neg:Bool)(hs:s=if neg then 45::(a++46::b) else a++46::b) :
  BC prog 131 #[S s,.int .i64 64] w λv w'=>v=.tuple #[.float .f64 (M5 neg a b),.nilIface]∧AY w w':=by
 have hX:=AY.refl w;refine enter func131 rfl rfl rfl<|gP [] Bw 10 [] (Ar _) (λ_=>A7 rfl (Aw gV rfl rfl) (Jy _ (hG.ext hX) s a b ha hb hane hbne hab neg hs) ?_);rintro _ w1 ⟨rfl,hE1⟩;replace hX:=hX.trans hE1;have sz1:=hE1.size;refine gL [.sq _] Bw 18 [] (Ar _) (λ_=>sP 19 rfl (λh1=>?_) (λh1=>?_))
 ·
  exfalso;simp at h1
 exact gP [.sq _] Bw 12 [] (Ar _) (λ_=>B1 (Cu rfl (Ak rfl) (Ak rfl))<|⟨rfl,hX⟩)
theorem ME(w:World)(hG:Gl w)(s:lU)(a b:lU)(ha:H2 a)(hb:H2 b)(hane:a≠[])(hbne:b≠[])(hab:a.length+b.length≤15)(neg:Bool)(hs:s=if neg then 45::(a++46::b) else a++46::b) :
  BC prog 113 #[S s,.int .i64 64] w λv w'=>v=.tuple #[.float .f64 (M5 neg a b),.nilIface]∧AY w w':=by
 have hX:=AY.refl w;refine enter func113 rfl rfl rfl<|gP [] Bw 10 [] (Ar _) (λ_=>A7 rfl (Aw nF rfl rfl) (LU _ (hG.ext hX) s a b ha hb hane hbne hab neg hs) ?_);rintro _ w1 ⟨rfl,hE1⟩;replace hX:=hX.trans hE1;have sz1:=hE1.size;exact gL [.sq _] Bw 11 [] (Ar _) (λ_=>Aa rfl (I8 G6 rfl)<|gL [.sq _,.sq _] Bw 13 [] (Ar _) (λ_=>B1 (Cu rfl (Ak rfl) (Ak rfl))<|⟨rfl,hX⟩))
theorem vM:pU:=λw s a b hG hlen hf=>by
 obtain⟨h1,h2,h3,h4,h5,h6⟩:=PQ hf;refine ME w hG s a b h1 h2 h3 h4 h5 (OO s) ?_;rcases Lk s with hn|⟨r,rfl⟩
 · rw[hn,if_neg (by decide),← h6,Ja hn]
 ·
  rw[IT] at h6;rw[h6];rfl
end Go.Proofs.YtegedalegfadgaaGreatDoor
namespace Go.SP
theorem Fo.len_snoc':∀(a:Fo)(t:AM)(k:Fo),(a.snoc t k).len=a.len+1
 |.nil,_,_=>rfl
 |.cons _ _ r,t,k=>by simp only[Fo.snoc,Fo.len,Fo.len_snoc' r t k]
theorem Fo.ok_snoc:∀(a:Fo)(t:AM)(k:Fo),a.ok→t.ok→k.ok→k.len≤100000→(a.snoc t k).ok
 |.nil,_,_,_,h1,h2,h3=>⟨h1,h2,h3,tQ⟩
 |.cons _ _ r,t,k,h,h1,h2,h3=>⟨h.1,h.2.1,h.2.2.1,Fo.ok_snoc r t k h.2.2.2 h1 h2 h3⟩
theorem Fo.deep_snoc:∀(a:Fo)(n:Nat)(t:AM)(k:Fo),a.deep (n+1)=true→k.deep n=true→(a.snoc t k).deep (n+1)=true
 |.nil,n,t,k,_,h=>by simp[Fo.snoc,Fo.deep,h]
 |.cons u l r,n,t,k,h1,h2=>by
   simp only[Fo.deep,Bool.and_eq_true] at h1;simp only[Fo.snoc,Fo.deep,Bool.and_eq_true];exact⟨h1.1,Fo.deep_snoc r n t k h1.2 h2⟩
def oN:Nat→List (AM×Fo)→Prop
 |_,[]=>True
 |i,(o,p)::s=>o.ok∧p.ok∧p.len≤i∧p.deep (201-s.length)=true∧oN i s
theorem oN.up:∀{i:Nat}{st:List (AM×Fo)},oN i st→oN (i+1) st
 |_,[],_=>trivial
 |_,_::_,⟨a,b,c,d,e⟩=>⟨a,b,Nat.le_succ_of_le c,d,e.up⟩
theorem Hy:∀(l:List AM)(i:Nat)(st:List (AM×Fo))(cur fo:Fo),(∀t∈l,t.ok)→i+l.length≤100000→st.length≤200→oN i st→cur.ok→cur.len≤i→cur.deep (201-st.length)=true →
   AR l st cur=.ok fo→fo.ok∧fo.len≤i+l.length∧fo.deep 201=true
 | [],i,[],cur,fo,_,_,_,_,h1,h2,h3,h=>by
   simp only[AR] at h
   cases h
   exact⟨h1,by simpa using h2,by simpa using h3⟩
 | [],i,(o,p)::s,cur,fo,_,_,_,_,_,_,_,h=>by
   unfold AR at h
   split at h <;> cases h
 |k::l,i,st,cur,fo,hl,hi,hs,hI,h1,h2,h3,h=>by
   have hk:k.ok:=hl k (.head _);have hl':∀t∈l,t.ok:=λt ht=>hl t (.tail _ ht);simp only[List.length_cons] at hi;unfold AR at h
   split at h
   · split at h
     · cases h
     · rename_i h200
       have hne:st.length≠200:=by simpa using h200
       have:=Hy l (i+1) ((k,cur)::st) .nil fo hl' oM (by simp only[List.length_cons];omega) ⟨hk,h1,oM,h3,hI.up⟩ tQ (by simp[Fo.len]) (by simp[Fo.deep]) h;refine⟨this.1,?_,this.2.2⟩;have:=this.2.1;simp only[List.length_cons];omega
   · split at h
     · cases st with
       |nil=>cases h
       |cons op s =>
         obtain⟨o,p⟩:=op;simp only at h;obtain⟨ho,hp,hpl,hpd,hIs⟩:=hI;simp only[List.length_cons] at hs h3;have e:201-s.length=(201-(s.length+1))+1:=oM;have:=Hy l (i+1) s (p.snoc o cur) fo hl' oM oM hIs.up (Fo.ok_snoc p o cur hp ho h1 oM) (by rw[Fo.len_snoc'];omega) (by rw[e] at hpd ⊢;exact Fo.deep_snoc p _ o cur hpd h3) h;refine⟨this.1,?_,this.2.2⟩;have:=this.2.1;simp only[List.length_cons];omega
     · have e:201-st.length=(201-(st.length+1))+1:=oM
       have:=Hy l (i+1) st (cur.snoc k .nil) fo hl' oM hs hI.up (Fo.ok_snoc cur k .nil h1 hk tQ (by simp[Fo.len])) (by rw[Fo.len_snoc'];omega)
         (by rw[e] at h3 ⊢;exact Fo.deep_snoc cur _ k .nil h3 (by simp[Fo.deep])) h
       refine⟨this.1,?_,this.2.2⟩;have:=this.2.1;simp only[List.length_cons];omega
variable {fo:Fo}{toks:List AM}
theorem Vf(hl:∀t∈toks,t.ok)(hi:toks.length≤100000)(h:AR toks [] .nil=.ok fo):fo.all (Hb 200)∧fo.len≤100000:=by
 obtain⟨h1,h2,h3⟩:=Hy toks 0 [] .nil fo hl oM (by simp) tQ tQ (by simp[Fo.len]) (by rfl) h;exact⟨N7 200 fo h1 h3,oM⟩
end Go.SP
namespace Go.SP
open Go.SW Go.RowKit
variable {nm:Int}{ot toks:List AM}{F:Nat}{p p1:Ps}{src:lU}
theorem Pe:∀(n:Nat)(p:Ps)(l:lU)(toks:List AM),El F n p l=.ok toks→toks.length≤n
 |n,p,[],toks,h=>by rw[I1] at h;cases h;exact Nat.zero_le _
 |0,p,c::l,toks,h=>by cases h
 |n+1,p,c::l,toks,h=>by
   rw[Fc] at h
   split at h
   · cases h
   · rename_i t r' p' hs
     split at h
     · cases h
     · rename_i l' hl
       cases h
       have:=Pe n p' r' l' hl;have:=OR hs;rw[List.length_append];omega
theorem OD{start:Ps}:∀(n:Nat)(p:Ps)(acc l tx r:lU)(p':Ps),F3 start n p acc l=.ok (tx,r,p')→tx.length≤4096
 |0,_,_,_,_,_,_,h=>by cases h
 |n+1,p,acc,[],tx,r,p',h=>by cases h
 |n+1,p,acc,c::l,tx,r,p',h=>by
   rw[DH] at h
   split at h
   · split at h
     · cases h
     · rename_i hd
       cases h
       simp at hd;omega
   · split at h
     · cases h
     · split at h
       · exact OD n _ _ _ tx r p' h
       · split at h
         · cases h
         · split at h
           · cases h
           · exact OD n _ _ _ tx r p' h
theorem Zo{w:lU}{k:Int}{tx:lU}(hne:w≠[])(h:Ju w=some (k,nm,tx)):(k=5→tx≠[])∧tx.length≤100000∧k≠0∧k≠1:=by
 unfold Ju at h
 split at h
 · cases h;simp
 · split at h
   · cases h;simp[NC,OZ]
   · split at h
     · cases h
     · rename_i hc
       simp only[Bool.or_eq_true,not_or,decide_eq_true_eq] at hc
       split at h
       · cases h;exact⟨by simp,oM,dC,dC⟩
       · split at h
         · cases h;exact⟨λ_=>hne,oM,dC,dC⟩
         · cases h
theorem ZX{l r:lU}(h:CO F p l=.ok (ot,r,p1)):∀t∈ot,t.ok:=by
 cases l with
 |nil=>cases h
 |cons c r =>
   rw[CV] at h
   split at h
   · cases h;simp
   · split at h
     · simp only[Except.ok.injEq,Prod.mk.injEq] at h;rw[← h.1];simp
     · split at h
       · cases h;simp[AM.ok]
       · split at h
         · cases h;simp[AM.ok]
         · split at h
           · split at h
             · cases h
             · rename_i tx r' p' hs
               cases h
               have:=OD _ _ _ _ _ _ _ hs;simp only[List.mem_singleton,forall_eq,AM.ok];exact⟨by simp,oM⟩
           · split at h
             · cases h
             · rename_i k nm tx hw
               simp only[Except.ok.injEq,Prod.mk.injEq] at h;rw[← h.1];simp only[List.mem_singleton,forall_eq,AM.ok];have:=Zo (by simp) hw;exact⟨this.1,this.2.1⟩
theorem RL:∀(n:Nat)(p:Ps)(l:lU)(toks:List AM),El F n p l=.ok toks→∀t∈toks,t.ok
 |n,p,[],toks,h=>by rw[I1] at h;cases h;simp
 |0,p,c::l,toks,h=>by cases h
 |n+1,p,c::l,toks,h=>by
   rw[Fc] at h
   split at h
   · cases h
   · rename_i t r' p' hs
     split at h
     · cases h
     · rename_i l' hl
       cases h
       intro t ht;rcases List.mem_append.1 ht with ht|ht
       · exact ZX hs t ht
       · exact RL n p' r' l' hl t ht
theorem VF(h:Jz src=.ok toks):toks.length≤100000∧∀t∈toks,t.ok:=by
 unfold Jz at h
 split at h
 · cases h
 · rename_i hl
   simp only[decide_eq_true_eq] at hl
   split at h
   · cases h
   · rename_i l hs
     cases h
     exact⟨by have:=Pe _ _ _ _ hs;omega,RL _ _ _ _ hs⟩
theorem aG{e:Int×Int×Int}(h:Jz src=.error e):(e.2.2 != 0)=true:=by
 unfold Jz at h
 split at h
 · cases h;rfl
 · split at h <;> cases h
   rfl
end Go.SP
namespace Go.Proofs.YtegedalegfadgaaGreatDoor
open Go.SW Go.SP Go.RowKit Go.Proofs.Tryz
def G0(src:lU):Nd×Int×Int×Int:=Ib 200 (Jz src)
abbrev oW(p:Nd×Int×Int×Int)(a:Option Addr)(c:Nat):Value:=.tuple #[.slice a p.1.len c,.agg #[.int .i64 p.2.1,.int .i64 p.2.2.1],.int .i64 p.2.2.2]
variable {f:Fq}{w w':World}
theorem Sm.out{p:Nd×Int×Int×Int}{v:Value}(h:Sm p w f v w'):BW (α:=Option Addr×Nat) (λx=>oW p x.1 x.2) (λ_=>True) (λx=>[λw f=>AK w f p.1 x.1 x.2]) w f v w' :=
 let ⟨f',a,c,h1,h2,h3⟩:=h
 ⟨(a,c),f',h2,tQ,h1,h3,tQ⟩
theorem YQ(w:World)(f:Fq)(hv:Vl w f)(hJ:D5 w f)(src:lU) :
   BC prog 6 #[S src] w (BW (α:=Option Addr×Nat) (λx=>oW (G0 src) x.1 x.2) (λ_=>True) (λx=>[λw f=>AK w f (G0 src).1 x.1 x.2]) w f):=by
 refine BC.mono (R:=Sm (G0 src) w f) ?_ λ_ _ h=>Sm.out h;unfold G0
 cases hl:Jz src with
 |error e =>
   exact WH w f hv hJ 199 src e (aG hl) λw1 hG1=>by
     have:=Pl vM w1 hG1 src;rw[hl] at this;exact this
 |ok toks =>
   obtain⟨h1,h2⟩:=VF hl
   exact Zw w f hv hJ 199 src toks h1 (λfo hfo=>Vf h2 h1 hfo) λw1 hG1=>by
     have:=Pl vM w1 hG1 src;rw[hl] at this;exact this
def tb:Eh:=⟨[],[(22,3,1)],[],[],[(57,true,4),(3,false,1)],[(57,[.int .i64 0,.int .i64 0,.string ⟨#[]⟩,.slice none 0 0])],[(57,[(0,1),(1,1),(2,1),(3,1)])],[]⟩
theorem aJ:tb.Ok prog:=⟨tQ,(And.intro KD tQ),tQ,tQ,(And.intro AI (And.intro Dd tQ)),(And.intro DN tQ),(And.intro RO tQ),tQ⟩
theorem Ek(w:World)(f:Fq)(hv:Vl w f)(n:Int) :
  BC prog 45 #[.int .i64 n] w (BW (α:=Unit) (λ_=>tV (.var n) none 0) (λ_=>True) (λ_=>[]) w f):=by
 exact Dl (X:=X0 w f) (H:=[]) (R:=[]) (B:=[]) (Fs:=[]) (f:=f) func45 rfl rfl rfl (C8 hv tQ tQ)<|go aJ 13 [0] (λb1=>y<|λ_=>Bc (λw f hM=>AJ rfl (Ac rfl AI hM.k0 rfl)) (λw f hM=>⟨(),f,rfl,tQ,hM.exm,tQ⟩))
theorem M3(w:World)(f:Fq)(hv:Vl w f)(l:List Int)(a:Option Addr)(c:Nat)(n:Int)(hl:l.length≤1000000)(hI:B7 w f l a c) :
  BC prog 69 #[.slice a l.length c,.int .i64 n] w (BW (α:=Unit) (λ_=>.int .i64 (X9 l n)) (λ_=>True) (λ_=>[]) w f):=by
 refine Dl (X:=X0 w f) (H:=[]) (R:=[]) (B:=[]) (Fs:=[λw f=>B7 w f l a c]) (f:=f) func69 rfl rfl rfl (C8 hv ⟨hI,tQ⟩ ⟨B7.mono,tQ⟩)<|go aJ 14 [] (λ_=>?_);refine HK (α:=Nat) (λi=>l.length-i) (λi=>i≤l.length∧(l.take i).contains n=false) (λi=>(E4 0 (.slice a l.length c) 1 (.int .i64 n) 7 (.int .i64 (l.length:Int)) 8 (.int .i64 (i:Int)))) (λi=>X0 w f) (λi=>[]) (λi=>[]) (λi=>[]) (λi=>[λw f=>B7 w f l a c]) (0) ⟨oM,rfl⟩ lE (λw f hM=>hM) ?_;rintro i ⟨hi,hno⟩;refine go aJ 6 [] (λ_=>Ba 9 rfl rfl (λh1=>?_) (λh1=>?_));refine go aJ 12 [] (λ_=>?_);have hil:i<l.length:=by have:=of_decide_eq_true h1;omega
 obtain⟨v0,hx⟩:∃v,l[i]?=some v:=⟨_,List.getElem?_eq_getElem hil⟩;refine C6 (α:=Nat×Nat) (λx=>a=some ⟨x.1,x.2,none⟩) (λx=>[⟨x.1,x.2+i*1,[.int .i64 v0]⟩]) (λx=>[]) (λw f hM=>let ⟨b,off,h1,h2⟩:=B7.get hM.f0 hx;⟨(b,off),h1,(oE h2),λ_ h=>by cases h⟩) (λx=>Af.mem tQ) ?_;rintro⟨b,off⟩ rfl;refine go aJ 9 [100,0] (And.intro oM<|y2<|λ_=>Ba 16 rfl rfl (λh2=>?_) (λh2=>?_));exact go aJ 10 [] (λ_=>fD<|go aJ 2 [] (λ_=>Bc (DI rfl rfl) (λw f hM=>⟨(),f,(by rw[X9,V5 hno (by rw[hx,show v0=n from (beq_iff_eq.1 h2).symm])]),tQ,hM.exm,tQ⟩)));refine go aJ 8 [] (And.intro ⟨oM,oM⟩<|λ_=>?_);have hno2:(l.take (i+1)).contains n=false:=by rw[D1 hx];have h9:¬n=v0:=(by simpa using h2);have h8:n∉l.take i:=(by simpa using hno);simp[h8,h9]
 exact DM (i+1) (show l.length-(i+1)<l.length-i by omega) ⟨oM,hno2⟩ lE (λw f hM=>⟨_,hM.less sR sR nE (λ_ h=>h)⟩);refine go aJ 3 [] (λ_=>GR<|go aJ 8 [] (λ_=>?_));have hge:l.length≤i:=by have:=of_decide_eq_false h1;omega
 rw[List.take_of_length_le hge] at hno;exact Bc (DI rfl rfl) (λw f hM=>⟨(),f,(by rw[X9,NK hno]),tQ,hM.exm,tQ⟩)
def wM:Eh:=⟨[(57,3,3)],[(53,57,4)],[],[],[(53,false,1),(57,true,4)],[(57,[.int .i64 0,.int .i64 0,.string ⟨#[]⟩,.slice none 0 0])],[],[]⟩
theorem MH:wM.Ok prog:=⟨(And.intro FH tQ),(And.intro DT tQ),tQ,tQ,(And.intro Hs (And.intro AI tQ)),(And.intro DN tQ),tQ,tQ⟩
theorem ZL(m:Nat)(ih:oG prog 70 m)(w:World)(f:Fq)(hv:Vl w f)(t:T1)(a:Option Addr)(c:Nat)(hm:t.kids.size<m+1)(hbd:t.bnd)(hT:Ah w f t.kids a c) :
  BC prog 70 #[tV t a c] w (BW (α:=Option Addr×Nat) (λx=>tV t x.1 x.2) (λ_=>True) (λx=>[λw f=>Ah w f t.kids x.1 x.2]) w f):=by
 have hbl:=hbd.1;refine Dl (X:=X0 w f) (H:=[]) (R:=[]) (B:=[]) (Fs:=[λw f=>Ah w f t.kids a c]) (f:=f) func70 rfl rfl rfl (C8 hv ⟨hT,tQ⟩ ⟨Ah.mono,tQ⟩)<|go MH 15 [1] (λb1=>λb2=>y<|λ_=>Ba 9 rfl rfl (λh1=>?_) (λh1=>?_));refine go MH 15 [1,1,0] (y<|y<|y<|λ_=>?_);have h0:t.kids.len=0:=by have:=beq_iff_eq.1 h1;omega
 exact Bc (λw f hM=>AJ rfl (Ac rfl AI hM.k0 rfl)) (λw f hM=>⟨(none,0),f,(by show Value.agg _=Value.agg _;rw[h0]),tQ,hM.exm,⟨by rw[Ty.len0 h0];exact Ah.nil _ _ _ _,tQ⟩⟩);refine go MH 8 [1] (y<|λ_=>vN rfl rfl Dt rfl rfl rfl rfl (by have:=hbd.1;omega) (by have:=hbd.1;unfold maxLen;omega) λbr1=>go MH 13 [1] (y<|λ_=>?_));refine HK (α:=Nat×Ty×Ty×List Value) (λx=>x.2.1.len) (λx=>x.1+x.2.1.len=t.kids.len∧x.2.2.1.len=x.1∧t.kids=x.2.2.1.app x.2.1∧x.2.1.bnd∧x.2.1.size≤t.kids.size) (λx=>(E6 1 (.pointer (some ⟨b1,0,none⟩)) 2 (.pointer (some ⟨b2,0,none⟩)) 3 (.slice (some ⟨br1,0,none⟩) t.kids.len t.kids.len) 17 (.slice a t.kids.len c) 18 (.int .i64 (t.kids.len:Int)) 19 (.int .i64 (x.1:Int)))) (λx=>X0 w f) (λx=>[⟨b2,[.int .i64 0,.int .i64 0,.string ⟨#[]⟩,.slice none 0 0],57,true⟩,⟨b1,[.int .i64 t.op,.int .i64 t.num,S t.tx,.slice a t.kids.len c],57,true⟩]) (λx=>[⟨57,4,some ⟨br1,0,none⟩,t.kids.len,t.kids.len,x.2.2.2++Gy x.2.1.len [.int .i64 0,.int .i64 0,.string ⟨#[]⟩,.slice none 0 0]⟩]) (λx=>[]) (λx=>[λw f=>AZ w f a x.1 x.2.1,λw f=>Bo w f x.2.2.1 x.2.2.2]) (0,t.kids,.nil,[]) ⟨by simp,rfl,rfl,hbd.2,Nat.le_refl _⟩ lE (λw f hM=>hM.more (B':=[]) (F':=[λw f=>AZ w f a 0 t.kids,λw f=>Bo w f .nil []]) nE (A2.mem ⟨Ah.at hM.f0,rfl,tQ⟩) (Af.mem ⟨AZ.mono,Bo.mono,tQ⟩) |>.less sR sR (λ_ h=>h) (mR [0,1])) ?_;rintro⟨i,r,dn,xs⟩ ⟨hi,hdl,hk,hb,hs⟩;dsimp only at hi hdl hk hb hs ⊢;refine go MH 6 [] (λ_=>Ba 20 rfl rfl (λh2=>?_) (λh2=>?_));refine go MH 6 [] (λ_=>?_);have hil:i<t.kids.len:=by have:=of_decide_eq_true h2;omega
 obtain⟨t2,r,rfl⟩:=Ty.cases1 r oM;rw[T1.len_cons] at hi;refine C6 (α:=Nat×Nat×Option Addr×Nat) (λx=>a=some ⟨x.1,x.2.1,none⟩) (λx=>[⟨x.1,x.2.1+i*4,tC t2 x.2.2.1 x.2.2.2⟩]) (λx=>[λw f=>Ah w f t2.kids x.2.2.1 x.2.2.2,λw f=>AZ w f a (i+1) r]) (λw f hM=>let ⟨b,off,ka,kc,h1,h2,h3,h4⟩:=AZ.head hM.f0;⟨(b,off,ka,kc),h1,(oE h2),A2.mem ⟨h3,h4,tQ⟩⟩) (λx=>Af.mem ⟨Ah.mono,AZ.mono,tQ⟩) ?_;rintro⟨eb,eo,ka,kc⟩ rfl;refine go MH 13 [100,0,0,0] (And.intro oM<|y2<|λb3=>y<|y<|λ_=>BA rfl rfl (eC Qj rfl rfl) (λw f hM=>ih w f hM.vl t2 ka kc (by have:=T1.size_cons t2 r;omega) (T1.bnd_cons.1 hb).1 hM.f0) (λx=>⟨Ah.mono,tQ⟩) ?_);rintro⟨a2,c2⟩ -;refine go MH 1 [] (And.intro oM<|λ_=>KA (λw f hM=>Bo.len hM.f4) λhxl=>?_);rw[hdl] at hxl;exact vG 0 ((xs++tC t2 a2 c2)++Gy r.len [.int .i64 0,.int .i64 0,.string ⟨#[]⟩,.slice none 0 0]) rfl rfl rfl rfl AI rfl rfl rfl (by simp only[Nat.zero_add,List.length_cons,List.length_nil,Int.toNat_natCast];omega) (by rw[Nat.zero_add,Int.toNat_natCast,← hxl,T1.len_cons,Gy];exact SN _ _ _ _ rfl) rfl<|go MH 7 [] (And.intro ⟨oM,oM⟩<|λ_=>DM ((i+1,r,dn.snoc t2,xs++tC t2 a2 c2)) (show r.len<(t2.cons r).len by rw[T1.len_cons];omega) ⟨show i+1+r.len=t.kids.len by omega,show (dn.snoc t2).len=i+1 by rw[Ty.len_snoc,hdl],show t.kids=(dn.snoc t2).app r by rw[hk,Ty.snoc_app],(T1.bnd_cons.1 hb).2,show r.size≤t.kids.size by have:=T1.size_cons t2 r;omega⟩ lE (λw f hM=>⟨_,(hM.more (B':=[]) (F':=[λw f=>Bo w f (dn.snoc t2) (xs++tC t2 a2 c2)]) nE (A2.mem ⟨Bo.snoc hM.f0 hM.f4,tQ⟩) (Af.mem ⟨Bo.mono,tQ⟩)).less (List.sublist_cons_self _ _) sR nE (mR [3,0])⟩));refine go MH 3 [] (λ_=>GR<|go MH 3 [] (λ_=>?_));obtain rfl:r=.nil:=Ty.len0 (by have:=of_decide_eq_false h2;omega);rw[Ty.app_nil] at hk;exact gD 0 rfl rfl<|go MH 13 [1,1,0] (y<|y<|y<|λ_=>Bc (λw f hM=>AJ rfl (Ac rfl AI hM.k0 rfl)) (λw f hM=>⟨(some ⟨br1,0,none⟩,t.kids.len),f,rfl,tQ,hM.exm,⟨hk▸Bo.toF hM.f1 (by have:=hM.b0;simpa[Gy,Ty.len] using this) (Nat.le_refl _),tQ⟩⟩))
end Go.Proofs.YtegedalegfadgaaGreatDoor
namespace Go.SP
def Nd.bnd:Nd→Prop
 |.nil=>True
 |.cons _ _ _ _ _ kids rest=>kids.len≤200000∧kids.bnd∧rest.bnd
def N.bnd(a:N):Prop:=a.kids.len≤200000∧a.kids.bnd
theorem N.bnd_cons{a:N}{r:Nd}(h:a.bnd)(hr:r.bnd):(a.cons r).bnd:=⟨h.1,h.2,hr⟩
theorem Nd.bnd_app:∀{x y:Nd},x.bnd→y.bnd→(x.app y).bnd
 |.nil,_,_,h=>h
 |.cons _ _ _ _ _ _ _,_,h,hy=>⟨h.1,h.2.1,Nd.bnd_app h.2.2 hy⟩
def AM.er(t:AM):AM:=⟨t.k,0,0,t.nm,t.tx⟩
def Fo.er:Fo→Fo
 |.nil=>.nil
 |.cons t k r=>.cons t.er k.er r.er
def Nd.er:Nd→Nd
 |.nil=>.nil
 |.cons op _ _ tx nm kids r=>.cons op 0 0 tx nm kids.er r.er
def N.er(a:N):N:=⟨a.op,0,0,a.tx,a.nm,a.kids.er⟩
def FK{α β:Type}(f:α→β):R α→R β
 |.error _=>.error (0,0)
 |.ok x=>.ok (f x)
theorem Fo.er_len:∀k:Fo,k.er.len=k.len
 |.nil=>rfl
 |.cons _ _ r=>by simp only[Fo.er,Fo.len,Fo.er_len r]
theorem N.er_one(a:N):a.one.er=a.er.one:=rfl
theorem Nd.er_app:∀x y:Nd,(x.app y).er=x.er.app y.er
 |.nil,_=>rfl
 |.cons _ _ _ _ _ _ r,y=>by simp only[Nd.app,Nd.er,Nd.er_app r y]
theorem VY(t:AM)(op:Int)(tx:lU)(ks:Nd):(Az t op tx ks).er=Az t.er op tx ks.er:=rfl
theorem Ch{α:Type}{β:Type}(f:α→β)(t:AM)(b:Bool)(x:R α)(y:R β)(h:b=true→y=FK f x):need t.er b y=FK f (need t b x):=by
 unfold need
 cases b with
 |true=>simp only[if_true];exact h rfl
 |false=>rfl
theorem Sf{f g:AM→Fo→R N}:∀(k:Fo),k.all (λt l=>f t.er l.er=FK N.er (g t l))→AN f k.er=FK Nd.er (AN g k)
 |.nil,_=>rfl
 |.cons t l r,h=>by
   simp only[Fo.er,AN];rw[h.1,Sf r h.2]
   cases g t l with
   |error e=>rfl
   |ok a =>
     cases AN g r with
     |error e=>rfl
     |ok b=>rfl
theorem V9{p:AM→Fo→Prop}(h:∀t l,p t l):∀k:Fo,k.all p
 |.nil=>trivial
 |.cons t l r=>⟨h t l,V9 h r⟩
theorem Sa(t:AM)(k:Fo):HR t.er k.er=FK N.er (HR t k):=by
 unfold HR;show Except.ok _=Except.ok _;have e:t.er.isWord [95]=t.isWord [95]:=rfl;rw[e]
 split <;> rfl
theorem Tm:∀k:Fo,KC k.er=KC k
 |.nil=>rfl
 |.cons t _ r=>by simp only[Fo.er,KC,Tm r];rfl
theorem N2:∀(x:Nd)(s:List lU),BR s x.er=BR s x
 |.nil,_=>rfl
 |.cons op _ _ tx _ kids rest,s=>by
   simp only[Nd.er,BR]
   split
   · rfl
   · rename_i s1 _
     rw[N2 kids s1]
     split
     · rfl
     · rename_i s2 _
       exact N2 rest s2
theorem CQ{α β:Type}{f:α→β}{c:Bool}{a b:R β}{a' b':R α}(h1:a=FK f a')(h2:b=FK f b'):(if c then a else b)=FK f (if c then a' else b'):=by
 cases c with
 |true=>exact h1
 |false=>exact h2
theorem GN{f:AM→Fo→R N}(h:∀t k,f t.er k.er=FK N.er (f t k))(l:Fo):AN f l.er=FK Nd.er (AN f l):=Sf l (V9 h l)
theorem VM:∀(n:Nat)(t:AM)(k:Fo),Eb n t.er k.er=FK N.er (Eb n t k)
 |0,_,_=>rfl
 |n+1,t,k=>by
   have ih:=GN (VM n);unfold Eb;refine CQ rfl (CQ rfl (CQ rfl (CQ (Ch N.er t _ _ _ λ_=>Sa t k) (CQ rfl ?_))))
   cases k with
   |nil=>rfl
   |cons h kk l =>
     refine CQ ?_ ?_
     · rw[Fo.er_len];exact Ch N.er t _ _ _ λ_=>by rw[ih l];cases AN (Eb n) l <;> rfl
     · rw[Fo.er_len];exact Ch N.er t _ _ _ λ_=>by rw[ih l];cases AN (Eb n) l <;> rfl
theorem PD(t:AM):∀x:Nd,CX t.er x.er=(CX t x).map N.er
 |.nil=>rfl
 |.cons op ln co tx nm kids .nil=>rfl
 |.cons op ln co tx nm kids (.cons a b c d e f r)=>by
   have ih:=PD t (.cons a b c d e f r)
   have u:∀(t:AM)(op ln co:Int)(tx:lU)(nm:Int)(kids:Nd)(a b c:Int)(d:lU)(e:Int)(f r:Nd),CX t (.cons op ln co tx nm kids (.cons a b c d e f r))=(CX t (.cons a b c d e f r)).map λo=>Az t 32 [45,62] (.cons op ln co tx nm kids o.one):=by
     intro t op ln co tx nm kids a b c d e f r
     conv=>lhs;unfold CX
     cases CX t (.cons a b c d e f r) <;> rfl
   show CX t.er (.cons op 0 0 tx nm kids.er (Nd.cons a b c d e f r).er)=_;show CX t.er (.cons op 0 0 tx nm kids.er (.cons a 0 0 d e f.er r.er))=_;rw[u,u,show CX t.er (.cons a 0 0 d e f.er r.er)=_ from ih]
   cases CX t (.cons a b c d e f r) <;> rfl
theorem QN:∀(n:Nat)(t:AM)(k:Fo),Dk n t.er k.er=FK N.er (Dk n t k)
 |0,_,_=>rfl
 |n+1,t,k=>by
   have ih:=GN (QN n);unfold Dk;refine CQ ?_ (CQ rfl (Ch N.er t _ _ _ λ_=>rfl))
   cases k with
   |nil=>rfl
   |cons h kk l =>
     refine CQ ?_ ?_
     · rw[Fo.er_len]
       refine Ch N.er t _ _ _ λ_=>?_;rw[ih l]
       cases AN (Dk n) l with
       |error e=>rfl
       |ok a =>
         simp only[FK];rw[PD]
         cases CX t a <;> rfl
     · rw[Fo.er_len];exact Ch N.er t _ _ _ λ_=>by rw[ih l];cases AN (Dk n) l <;> rfl
theorem bL(n:Nat)(ex:AM→Fo→R N)(hex:∀t k,ex t.er k.er=FK N.er (ex t k))(t:AM)(k:Fo):Gv n ex t.er k.er=FK N.er (Gv n ex t k):=by
 unfold Gv
 cases k with
 |nil=>rfl
 |cons p pk r =>
   cases r with
   |nil=>rfl
   |cons b bk r =>
     cases r with
     |cons _ _ _=>rfl
     |nil =>
       refine Ch N.er t _ _ _ λ_=>?_;rw[VM n p pk]
       cases Eb n p pk with
       |error e=>rfl
       |ok q =>
         simp only[FK];rw[← N.er_one,N2];exact Ch N.er p _ _ _ λ_=>by rw[hex b bk];cases ex b bk <;> rfl
theorem Vv(t:AM)(k:Fo):QQ t.er k.er=QQ t k:=by cases k <;> rfl
theorem YC(n:Nat)(ex:AM→Fo→R N)(hex:∀t k,ex t.er k.er=FK N.er (ex t k))(t:AM)(w:lU)(l:Fo):Bn n ex t.er w l.er=FK N.er (Bn n ex t w l):=by
 have ih:=GN hex;have iha:=GN (bL n ex hex);unfold Bn;refine CQ ?_ (CQ ?_ (CQ ?_ (CQ ?_ (CQ ?_ (CQ ?_ (CQ ?_ (CQ ?_ rfl)))))))
 · rcases l with _|⟨p,pk,_|⟨b,bk,_|⟨_,_,_⟩⟩⟩
   · rfl
   · rfl
   · simp only[Fo.er]
     rw[Fo.er_len,Tm];refine Ch N.er t _ _ _ λ_=>?_;rw[GN Sa pk]
     cases AN HR pk with
     |error e=>rfl
     |ok hs =>
       simp only[FK];rw[hex b bk]
       cases ex b bk with
       |error e=>rfl
       |ok x =>
         show Except.ok _=Except.ok _;rw[VY,Nd.er_app];rfl
   · rfl
 · rcases l with _|⟨v,vk,_|⟨e,ek,_|⟨b,bk,_|⟨_,_,_⟩⟩⟩⟩
   · rfl
   · rfl
   · rfl
   · exact Ch N.er t _ _ _ λ_=>by
       rw[hex e ek]
       cases ex e ek with
       |error _=>rfl
       |ok x=>simp only[FK];rw[hex b bk];cases ex b bk <;> rfl
   · rfl
 · rcases l with _|⟨v,vk,_|⟨e,ek,_|⟨b,bk,_|⟨_,_,_⟩⟩⟩⟩
   · rfl
   · rfl
   · rfl
   · simp only[Fo.er]
     rw[Vv]
     exact Ch N.er t _ _ _ λ_=>by
       rw[hex e ek]
       cases ex e ek with
       |error _=>rfl
       |ok x=>simp only[FK];rw[hex b bk];cases ex b bk <;> rfl
   · rfl
 · rw[Fo.er_len];exact Ch N.er t _ _ _ λ_=>by rw[ih l];cases AN ex l <;> rfl
 · rw[Fo.er_len];exact Ch N.er t _ _ _ λ_=>by rw[ih l];cases AN ex l <;> rfl
 · rw[Fo.er_len];exact Ch N.er t _ _ _ λ_=>by rw[ih l];cases AN ex l <;> rfl
 · rw[Fo.er_len]
   refine Ch N.er t _ _ _ λ_=>?_
   cases l with
   |nil=>rfl
   |cons e ek arms =>
     simp only[Fo.er];rw[hex e ek]
     cases ex e ek with
     |error _=>rfl
     |ok x=>simp only[FK];rw[iha arms];cases AN (Gv n ex) arms <;> rfl
 · rcases l with _|⟨e,ek,_|⟨_,_,_⟩⟩
   · rfl
   · simp only[Fo.er];rw[hex e ek];cases ex e ek <;> rfl
   · rfl
theorem Ko:∀(n:Nat)(t:AM)(k:Fo),By n t.er k.er=FK N.er (By n t k)
 |0,_,_=>rfl
 |n+1,t,k=>by
   have ih:=GN (Ko n);unfold By;refine CQ rfl (CQ rfl (CQ rfl (CQ rfl (CQ (Ch N.er t _ _ _ λ_=>rfl) ?_))))
   cases k with
   |nil=>rfl
   |cons h kk l =>
     refine CQ ?_ (CQ (YC n _ (Ko n) t h.tx l) ?_)
     · rw[Fo.er_len];exact Ch N.er t _ _ _ λ_=>by rw[ih l];cases AN (By n) l <;> rfl
     · rw[Fo.er_len];exact Ch N.er t _ _ _ λ_=>by rw[ih (.cons h kk l)];cases AN (By n) (.cons h kk l) <;> rfl
theorem ZP(n:Nat)(t:AM)(k:Fo):FN n t.er k.er=FK N.er (FN n t k):=by
 unfold FN
 cases k with
 |nil=>rfl
 |cons h kk l =>
   have e:decide (((Fo.cons h kk l).er.len:Int)≤9)=decide (((Fo.cons h kk l).len:Int)≤9):=by simp only[Fo.er_len]
   show need t.er (t.k==0&&(h.k==6&&decide (((Fo.cons h kk l).er.len:Int)≤9))) _=_;rw[e];exact Ch N.er t _ _ _ λ_=>by rw[GN (QN n) l];cases AN (Dk n) l <;> rfl
theorem Pq:∀k:Fo,BL k.er=(BL k).map Nd.er
 |.nil=>rfl
 |.cons v _ r=>by
   simp only[Fo.er,BL,Pq r];rw[show v.er.isTypeVar=v.isTypeVar from rfl]
   split
   · cases BL r <;> rfl
   · rfl
theorem cJ(n:Nat)(t:AM)(k:Fo):CA n t.er k.er=FK N.er (CA n t k):=by
 unfold CA
 cases k with
 |nil=>rfl
 |cons h kk l =>
   refine Ch N.er t _ _ _ λ_=>CQ ?_ (CQ ?_ (CQ ?_ (CQ ?_ (CQ ?_ rfl))))
   · rcases l with _|⟨a,ak,_|⟨b,bk,_|⟨c,ck,r⟩⟩⟩
     · rfl
     · rfl
     · rfl
     · simp only[Fo.er]
       rw[Fo.er_len,Pq];refine Ch N.er t _ _ _ λ_=>?_
       cases BL bk with
       |none=>rfl
       |some vs =>
         simp only[Option.map_some];rw[show AN (FN n) (Fo.cons c.er ck.er r.er)=_ from GN (ZP n) (.cons c ck r)]
         cases AN (FN n) (.cons c ck r) with
         |error e=>rfl
         |ok cs =>
           show Except.ok _=Except.ok _;rw[VY,Nd.er_app];rfl
   · rcases l with _|⟨a,ak,_|⟨b,bk,_|⟨c,ck,_|⟨_,_,_⟩⟩⟩⟩
     · rfl
     · rfl
     · rfl
     · exact Ch N.er t _ _ _ λ_=>by
         rw[QN n b bk]
         cases Dk n b bk with
         |error _=>rfl
         |ok x=>simp only[FK];rw[Ko n c ck];cases By n c ck <;> rfl
     · rfl
   · rcases l with _|⟨a,ak,_|⟨b,bk,_|⟨_,_,_⟩⟩⟩
     · rfl
     · rfl
     · exact Ch N.er t _ _ _ λ_=>by rw[Ko n b bk];cases By n b bk <;> rfl
     · rfl
   · rcases l with _|⟨a,ak,_|⟨b,bk,_|⟨_,_,_⟩⟩⟩
     · rfl
     · rfl
     · simp only[Fo.er]
       rw[Vv];exact Ch N.er t _ _ _ λ_=>by rw[Ko n b bk];cases By n b bk <;> rfl
     · rfl
   · rcases l with _|⟨b,bk,_|⟨_,_,_⟩⟩
     · rfl
     · simp only[Fo.er];rw[Ko n b bk];cases By n b bk <;> rfl
     · rfl
theorem Fo.er_snoc:∀(a:Fo)(t:AM)(k:Fo),(a.snoc t k).er=a.er.snoc t.er k.er
 |.nil,_,_=>rfl
 |.cons _ _ r,t,k=>by simp only[Fo.snoc,Fo.er,Fo.er_snoc r t k]
def uJ(st:List (AM×Fo)):List (AM×Fo):=st.map λx=>(x.1.er,x.2.er)
theorem Kw:∀(l:List AM)(st:List (AM×Fo))(cur:Fo),AR (l.map AM.er) (uJ st) cur.er=FK Fo.er (AR l st cur)
 | [],[],cur=>rfl
 | [],(o,p)::s,cur=>by
   have h1:∃e,AR [] ((o,p)::s) cur=.error e:=by unfold AR;split <;> exact⟨_,rfl⟩
   obtain⟨e,he⟩:=h1;rw[he];simp only[List.map_nil,uJ,List.map_cons,AR]
   split
   · rename_i q f hq
     have:q.ln=0∧q.co=0:=by
       have hm:=List.mem_of_getLast? hq;rcases List.mem_cons.1 hm with h|h
       · cases h;exact⟨rfl,rfl⟩
       · obtain⟨x,_,hx⟩:=List.mem_map.1 h
         cases hx;exact⟨rfl,rfl⟩
     rw[this.1,this.2];rfl
   · rfl
 |k::l,st,cur=>by
   simp only[List.map_cons,AR];refine CQ ?_ (CQ ?_ ?_)
   · rw[show (uJ st).length=st.length from List.length_map _]
     exact CQ rfl (Kw l ((k,cur)::st) .nil)
   · cases st with
     |nil=>rfl
     |cons op s =>
       obtain⟨o,p⟩:=op;have:=Kw l s (p.snoc o cur);rw[Fo.er_snoc] at this;exact this
   · have:=Kw l st (cur.snoc k .nil)
     rw[Fo.er_snoc] at this;exact this
def Nb(n:Nat)(l:List AM):R Nd:=match AR l [] .nil with
 |.error e=>.error e
 |.ok fo=>AN (CA n) fo
theorem XL(n:Nat)(l:List AM):Nb n (l.map AM.er)=FK Nd.er (Nb n l):=by
 unfold Nb;rw[show AR (l.map AM.er) [] .nil=_ from Kw l [] .nil]
 cases AR l [] .nil with
 |error e=>rfl
 |ok fo=>exact GN (cJ n) fo
theorem Fo.app_nil:∀a:Fo,a.app .nil=a
 |.nil=>rfl
 |.cons _ _ r=>by simp only[Fo.app,Fo.app_nil r]
end Go.SP
