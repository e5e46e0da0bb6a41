/- ParseNames: of every text of at most 60 bytes, and of every other, the law answers true. -/
import Derived.Test.YthjdnhnbgjgbkaaGreatDoorGa7
import Derived.ChangeMaps5
set_option linter.unusedVariables false
set_option linter.unusedSimpArgs false
namespace Go.Proofs.YthjdnhnbgjgbkaaGreatDoor
open Go.SW Go.SP Go.RowKit
theorem rem_nat (z : Int) (m : Nat) (hm : 0 < m) : ∃ i : Nat, i < m ∧ (IntKind.u64.wrap z).tmod (m : Int) = (i : Int) := by
 have h0 : 0 ≤ IntKind.u64.wrap z := by rw [IntKind.wrap_u64]; omega
 refine ⟨((IntKind.u64.wrap z) % (m : Int)).toNat, ?_, ?_⟩
 · have h1 := Int.emod_lt_of_pos (IntKind.u64.wrap z) (show (0 : Int) < m by omega)
   have h2 := Int.emod_nonneg (IntKind.u64.wrap z) (show (m : Int) ≠ 0 by omega)
   omega
 · rw [Int.tmod_eq_emod_of_nonneg h0]
   have h2 := Int.emod_nonneg (IntKind.u64.wrap z) (show (m : Int) ≠ 0 by omega)
   omega
/-! Counts. -/
def cwB : List (List UInt8) := [[108, 101, 116], [105, 102], [115, 101, 113], [116, 117, 112, 108, 101], [114, 97, 105, 115, 101], [116, 114, 97, 110, 115, 97, 99, 116], [120], [67, 111, 110], [99, 97, 115, 101], [116, 114, 121]]
def cLo : List Nat := [3, 3, 1, 2, 1, 1, 1, 1, 2, 2]
def cHi : List Nat := [3, 3, 1048576, 8, 1, 1, 8, 8, 1048576, 1048576]
def cntT (i : Nat) : Nat → List UInt8
 | 0 => [40, 100, 111, 32, 40] ++ cwB.getD i []
 | k + 1 => cntT i k ++ (if decide ((8 : Int) ≤ (i : Int)) && decide ((0 : Int) < (k : Int)) then [32, 40, 95, 32, 49, 41] else [32, 121])
def cntOk (i n : Nat) : Bool := okP (cntT i n ++ [41, 41]) == (decide (((cLo.getD i 0 : Nat) : Int) ≤ (n : Int)) && decide ((n : Int) ≤ ((cHi.getD i 0 : Nat) : Int)))
theorem cnt_all : (List.range 10).all (fun i => (List.range 12).all fun n => cntOk i n) = true := by kernel_rfl
theorem cnt_ok {i n : Nat} (hi : i < 10) (hn : n < 12) : okP (cntT i n ++ [41, 41]) = (decide (((cLo.getD i 0 : Nat) : Int) ≤ (n : Int)) && decide ((n : Int) ≤ ((cHi.getD i 0 : Nat) : Int))) := by
 have h := List.all_eq_true.1 (List.all_eq_true.1 cnt_all i (List.mem_range.2 hi)) n (List.mem_range.2 hn)
 exact (beq_iff_eq).1 h
theorem cnt_len (i : Nat) (hi : i < 10) : ∀ k, (cntT i k).length ≤ 20 + 6 * k
 | 0 => by
   have h : ∀ i : Fin 10, ([40, 100, 111, 32, 40] ++ cwB.getD i.val []).length ≤ 20 := by decide
   exact h ⟨i, hi⟩
 | k + 1 => by
   have ih := cnt_len i hi k
   unfold cntT
   split <;> (rw [List.length_append]; simp only [List.length_cons, List.length_nil]; omega)
theorem cw_len {i : Nat} (hi : i < 10) : (cwB.getD i []).length ≤ 20 := by
 have h : ∀ i : Fin 10, (cwB.getD i.val []).length ≤ 20 := by decide
 exact h ⟨i, hi⟩
theorem cw_at {i : Nat} (hi : i < 10) : (cwB.map S)[0 + i * 1]? = some (S (cwB.getD i [])) := by
 have : i < cwB.length := hi
 rw [Nat.zero_add, Nat.mul_one, List.getElem?_map, List.getD_eq_getElem?_getD, List.getElem?_eq_getElem this]; rfl
def intC (l : List Nat) : List Value := l.map fun (n : Nat) => Value.int .i64 (n : Int)
theorem int_at {l : List Nat} {i : Nat} (hi : i < l.length) : (intC l)[0 + i * 1]? = some (.int .i64 ((l.getD i 0 : Nat) : Int)) := by
 rw [Nat.zero_add, Nat.mul_one, intC, List.getElem?_map, List.getD_eq_getElem?_getD, List.getElem?_eq_getElem hi]; rfl
theorem str_at {l : List (List UInt8)} {i : Nat} (hi : i < l.length) : (l.map S)[0 + i * 1]? = some (S (l.getD i [])) := by
 rw [Nat.zero_add, Nat.mul_one, List.getElem?_map, List.getD_eq_getElem?_getD, List.getElem?_eq_getElem hi]; rfl
/-! Tops. -/
def twB : List (List UInt8) := [[100, 101, 102], [114, 101, 99], [114, 111, 111, 116], [100, 111], [100, 97, 116, 97], [102, 110], [120]]
def tpB : List (List (List UInt8)) := [[[97], [49], [49], [49], [49], [49]], [[97], [40, 102, 110, 32, 40, 120, 41, 32, 49, 41], [49], [49], [49], [49]], [[97], [105, 110, 116], [49], [49], [49], [49]], [[49], [49], [49], [49], [49], [49]], [[116], [40, 39, 97, 32, 39, 98, 41], [40, 65, 32, 39, 97, 41], [40, 66, 41], [40, 67, 41], [40, 68, 32, 116, 41]], [[40, 120, 41], [49], [49], [49], [49], [49]], [[49], [49], [49], [49], [49], [49]]]
def topT (i : Nat) : Nat → List UInt8
 | 0 => [40] ++ twB.getD i []
 | k + 1 => topT i k ++ [32] ++ (tpB.getD i []).getD k []
def topR (i : Nat) (n : Nat) : Bool := match i with
 | 0 => (n : Int) == 2
 | 1 => (n : Int) == 2
 | 2 => (n : Int) == 3
 | 3 => (n : Int) == 1
 | 4 => decide ((3 : Int) ≤ (n : Int))
 | _ => false
theorem top_all : (List.range 7).all (fun i => (List.range 6).all fun n => okP (topT i n ++ [41]) == topR i n) = true := by kernel_rfl
theorem top_ok {i n : Nat} (hi : i < 7) (hn : n < 6) : okP (topT i n ++ [41]) = topR i n := by
 have h := List.all_eq_true.1 (List.all_eq_true.1 top_all i (List.mem_range.2 hi)) n (List.mem_range.2 hn)
 exact (beq_iff_eq).1 h
theorem top_len (i : Nat) (hi : i < 7) : ∀ k, k ≤ 6 → (topT i k).length ≤ 20 + 12 * k
 | 0, _ => by
   have h : ∀ i : Fin 7, ([40] ++ twB.getD i.val []).length ≤ 20 := by decide
   exact h ⟨i, hi⟩
 | k + 1, hk => by
   have ih := top_len i hi k (by omega)
   have h : ∀ (i : Fin 7) (k : Fin 6), ((tpB.getD i.val []).getD k.val []).length ≤ 11 := by decide
   have h2 := h ⟨i, hi⟩ ⟨k, by omega⟩
   unfold topT
   rw [List.length_append, List.length_append]
   simp only [List.length_cons, List.length_nil]
   simp only at h2
   omega
theorem tw_len {i : Nat} (hi : i < 7) : (twB.getD i []).length ≤ 20 := by
 have h : ∀ i : Fin 7, (twB.getD i.val []).length ≤ 20 := by decide
 exact h ⟨i, hi⟩
theorem tp_len2 {i k : Nat} (hi : i < 7) (hk : k < 6) : ((tpB.getD i []).getD k []).length ≤ 11 := by
 have h : ∀ (i : Fin 7) (k : Fin 6), ((tpB.getD i.val []).getD k.val []).length ≤ 11 := by decide
 exact h ⟨i, hi⟩ ⟨k, hk⟩
theorem tp_len {i : Nat} (hi : i < 7) : (tpB.getD i []).length = 6 := by
 have h : ∀ i : Fin 7, (tpB.getD i.val []).length = 6 := by decide
 exact h ⟨i, hi⟩
end Go.Proofs.YthjdnhnbgjgbkaaGreatDoor
namespace Go.Proofs.YthjdnhnbgjgbkaaGreatDoor
open Go.SW Go.SP Go.RowKit
def dpS : Nat → List UInt8
 | 0 => [40, 100, 111, 32]
 | k + 1 => dpS k ++ [40, 115, 101, 113, 32]
def dpC : Nat → List UInt8
 | 0 => [41]
 | k + 1 => dpC k ++ [41]
def dpE (k e : Nat) : List UInt8 := if e == 1 then dpC k ++ [41] else if e == 2 then (dpC k).take ((dpC k).length - 1) else dpC k
/-- k: one less than the depth. -/
def dpT (k e : Nat) : List UInt8 := [10] ++ dpS k ++ [49] ++ dpE k e
def dpCol (k e : Nat) : Nat := if Nat.ble 200 k then 1000 else if e == 1 then (dpS k).length + 1 + (dpE k e).length else 1
def dpOk (k e : Nat) : Bool :=
 let p := progS (dpT k e)
 ((p.2.2.2 == 0) == (Nat.ble k 199 && e == 0)) && (p.2.2.2 == 0 || (p.2.2.2 == 10 && (p.2.1 == 2 && p.2.2.1 == (dpCol k e : Int))))
theorem dp_all : (List.range 10).all (fun i => (List.range 3).all fun e => dpOk (194 + i) e) = true := by kernel_rfl
theorem dp_ok {k e : Nat} (h1 : 194 ≤ k) (h2 : k < 204) (he : e < 3) : dpOk k e = true := by
 have h := List.all_eq_true.1 (List.all_eq_true.1 dp_all (k - 194) (List.mem_range.2 (by omega))) e (List.mem_range.2 he)
 rwa [show 194 + (k - 194) = k by omega] at h
theorem dpS_len : ∀ k, (dpS k).length = 4 + 5 * k
 | 0 => rfl
 | k + 1 => by rw [dpS, List.length_append, dpS_len k]; simp only [List.length_cons, List.length_nil]; omega
theorem dpC_len : ∀ k, (dpC k).length = k + 1
 | 0 => rfl
 | k + 1 => by rw [dpC, List.length_append, dpC_len k]; rfl
theorem program_eq (w : World) (hG : Gl w) (src t : List UInt8) (h : src = t) : Ret Tryz.prog 9 #[S src] w fun v w' => ProgR w w' v (progS t) := h ▸ program w hG src
theorem rn_neB {P : Program} {σ : Env} {w : World} {ty t t' : TypeId} {x y : Operand} {a b : Bool} (ht : P.underlying t = some .bool) (hx : ev σ x = some (.bool a)) (hy : ev σ y = some (.bool b)) : Runs P σ (.binOp .neq t x y t') ty w (.bool (a != b)) w := by
 have e : (Op.equal t (.bool a) (.bool b)).run P w = .ok (a == b) w := by
   show (Op.equalIn (Op.maxDepth - 1 + 1) t _ _).run P w = _
   simp [Op.equalIn, run_underlying ht]
 exact fun ρ _ _ _ _ hρ => by simp [execOp, hρ _ _ hx, hρ _ _ hy, eqGuard, binOp, e, bne]
end Go.Proofs.YthjdnhnbgjgbkaaGreatDoor
namespace Go.SP
def Tok.er (t : Tok) : Tok := ⟨t.k, 0, 0, t.nm, t.tx⟩
def Fo.er : Fo → Fo
 | .nil => .nil
 | .cons t k r => .cons t.er k.er r.er
def Nd.er : Nd → Nd
 | .nil => .nil
 | .cons op _ _ tx nm kids r => .cons op 0 0 tx nm kids.er r.er
def N.er (a : N) : N := ⟨a.op, 0, 0, a.tx, a.nm, a.kids.er⟩
def mapX {α β : Type} (f : α → β) : R α → R β
 | .error _ => .error (0, 0)
 | .ok x => .ok (f x)
theorem Fo.er_len : ∀ k : Fo, k.er.len = k.len
 | .nil => rfl
 | .cons _ _ r => by simp only [Fo.er, Fo.len, Fo.er_len r]
theorem N.er_cons (a : N) (r : Nd) : (a.cons r).er = a.er.cons r.er := rfl
theorem N.er_one (a : N) : a.one.er = a.er.one := rfl
theorem Nd.er_app : ∀ x y : Nd, (x.app y).er = x.er.app y.er
 | .nil, _ => rfl
 | .cons _ _ _ _ _ _ r, y => by simp only [Nd.app, Nd.er, Nd.er_app r y]
theorem node_er (t : Tok) (op : Int) (tx : List UInt8) (ks : Nd) : (node t op tx ks).er = node t.er op tx ks.er := rfl
theorem need_er {α : Type} {β : Type} (f : α → β) (t : Tok) (b : Bool) (x : R α) (y : R β) (h : b = true → y = mapX f x) : need t.er b y = mapX f (need t b x) := by
 unfold need
 cases b with
 | true => simp only [if_true]; exact h rfl
 | false => rfl
theorem eachM_er {f g : Tok → Fo → R N} : ∀ (k : Fo), k.all (fun t l => f t.er l.er = mapX N.er (g t l)) → eachM f k.er = mapX Nd.er (eachM g k)
 | .nil, _ => rfl
 | .cons t l r, h => by
   simp only [Fo.er, eachM]
   rw [h.1, eachM_er r h.2]
   cases g t l with
   | error e => rfl
   | ok a =>
     cases eachM g r with
     | error e => rfl
     | ok b => rfl
theorem all_of' {p : Tok → Fo → Prop} (h : ∀ t l, p t l) : ∀ k : Fo, k.all p
 | .nil => trivial
 | .cons t l r => ⟨h t l, all_of' h r⟩
theorem holeM_er (t : Tok) (k : Fo) : holeM t.er k.er = mapX N.er (holeM t k) := by
 unfold holeM
 show Except.ok _ = Except.ok _
 have e : t.er.isWord [95] = t.isWord [95] := rfl
 rw [e]
 split <;> rfl
theorem holes_er : ∀ k : Fo, holes k.er = holes k
 | .nil => rfl
 | .cons t _ r => by simp only [Fo.er, holes, holes_er r]; rfl
theorem onceM_er : ∀ (x : Nd) (s : List (List UInt8)), onceM s x.er = onceM s x
 | .nil, _ => rfl
 | .cons op _ _ tx _ kids rest, s => by
   simp only [Nd.er, onceM]
   split
   · rfl
   · rename_i s1 _
     rw [onceM_er kids s1]
     split
     · rfl
     · rename_i s2 _
       exact onceM_er rest s2
theorem if_er {α β : Type} {f : α → β} {c : Bool} {a b : R β} {a' b' : R α} (h1 : a = mapX f a') (h2 : b = mapX f b') : (if c then a else b) = mapX f (if c then a' else b') := by
 cases c with
 | true => exact h1
 | false => exact h2
theorem each_er {f : Tok → Fo → R N} (h : ∀ t k, f t.er k.er = mapX N.er (f t k)) (l : Fo) : eachM f l.er = mapX Nd.er (eachM f l) := eachM_er l (all_of' h l)
theorem patM_er : ∀ (n : Nat) (t : Tok) (k : Fo), patM n t.er k.er = mapX N.er (patM n t k)
 | 0, _, _ => rfl
 | n + 1, t, k => by
   have ih := each_er (patM_er n)
   unfold patM
   refine if_er rfl (if_er rfl (if_er rfl (if_er (need_er N.er t _ _ _ fun _ => holeM_er t k) (if_er rfl ?_))))
   cases k with
   | nil => rfl
   | cons h kk l =>
     refine if_er ?_ ?_
     · rw [Fo.er_len]; exact need_er N.er t _ _ _ fun _ => by rw [ih l]; cases eachM (patM n) l <;> rfl
     · rw [Fo.er_len]; exact need_er N.er t _ _ _ fun _ => by rw [ih l]; cases eachM (patM n) l <;> rfl
theorem arrowM_er (t : Tok) : ∀ x : Nd, arrowM t.er x.er = (arrowM t x).map N.er
 | .nil => rfl
 | .cons op ln co tx nm kids .nil => rfl
 | .cons op ln co tx nm kids (.cons a b c d e f r) => by
   have ih := arrowM_er t (.cons a b c d e f r)
   have u : ∀ (t : Tok) (op ln co : Int) (tx : List UInt8) (nm : Int) (kids : Nd) (a b c : Int) (d : List UInt8) (e : Int) (f r : Nd), arrowM t (.cons op ln co tx nm kids (.cons a b c d e f r)) = (arrowM t (.cons a b c d e f r)).map fun o => node t 32 [45, 62] (.cons op ln co tx nm kids o.one) := by
     intro t op ln co tx nm kids a b c d e f r
     conv => lhs; unfold arrowM
     cases arrowM t (.cons a b c d e f r) <;> rfl
   show arrowM t.er (.cons op 0 0 tx nm kids.er (Nd.cons a b c d e f r).er) = _
   show arrowM t.er (.cons op 0 0 tx nm kids.er (.cons a 0 0 d e f.er r.er)) = _
   rw [u, u, show arrowM t.er (.cons a 0 0 d e f.er r.er) = _ from ih]
   cases arrowM t (.cons a b c d e f r) <;> rfl
theorem typM_er : ∀ (n : Nat) (t : Tok) (k : Fo), typM n t.er k.er = mapX N.er (typM n t k)
 | 0, _, _ => rfl
 | n + 1, t, k => by
   have ih := each_er (typM_er n)
   unfold typM
   refine if_er ?_ (if_er rfl (need_er N.er t _ _ _ fun _ => rfl))
   cases k with
   | nil => rfl
   | cons h kk l =>
     refine if_er ?_ ?_
     · rw [Fo.er_len]
       refine need_er N.er t _ _ _ fun _ => ?_
       rw [ih l]
       cases eachM (typM n) l with
       | error e => rfl
       | ok a =>
         simp only [mapX]
         rw [arrowM_er]
         cases arrowM t a <;> rfl
     · rw [Fo.er_len]; exact need_er N.er t _ _ _ fun _ => by rw [ih l]; cases eachM (typM n) l <;> rfl
theorem armM_er (n : Nat) (ex : Tok → Fo → R N) (hex : ∀ t k, ex t.er k.er = mapX N.er (ex t k)) (t : Tok) (k : Fo) : armM n ex t.er k.er = mapX N.er (armM n ex t k) := by
 unfold armM
 cases k with
 | nil => rfl
 | cons p pk r =>
   cases r with
   | nil => rfl
   | cons b bk r =>
     cases r with
     | cons _ _ _ => rfl
     | nil =>
       refine need_er N.er t _ _ _ fun _ => ?_
       rw [patM_er n p pk]
       cases patM n p pk with
       | error e => rfl
       | ok q =>
         simp only [mapX]
         rw [← N.er_one, onceM_er]
         exact need_er N.er p _ _ _ fun _ => by rw [hex b bk]; cases ex b bk <;> rfl
theorem isFn_er (t : Tok) (k : Fo) : isFn t.er k.er = isFn t k := by cases k <;> rfl
theorem formM_er (n : Nat) (ex : Tok → Fo → R N) (hex : ∀ t k, ex t.er k.er = mapX N.er (ex t k)) (t : Tok) (w : List UInt8) (l : Fo) : formM n ex t.er w l.er = mapX N.er (formM n ex t w l) := by
 have ih := each_er hex
 have iha := each_er (armM_er n ex hex)
 unfold formM
 refine if_er ?_ (if_er ?_ (if_er ?_ (if_er ?_ (if_er ?_ (if_er ?_ (if_er ?_ (if_er ?_ rfl)))))))
 · rcases l with _ | ⟨p, pk, _ | ⟨b, bk, _ | ⟨_, _, _⟩⟩⟩
   · rfl
   · rfl
   · simp only [Fo.er]
     rw [Fo.er_len, holes_er]
     refine need_er N.er t _ _ _ fun _ => ?_
     rw [each_er holeM_er pk]
     cases eachM holeM pk with
     | error e => rfl
     | ok hs =>
       simp only [mapX]
       rw [hex b bk]
       cases ex b bk with
       | error e => rfl
       | ok x =>
         show Except.ok _ = Except.ok _
         rw [node_er, Nd.er_app]; rfl
   · rfl
 · rcases l with _ | ⟨v, vk, _ | ⟨e, ek, _ | ⟨b, bk, _ | ⟨_, _, _⟩⟩⟩⟩
   · rfl
   · rfl
   · rfl
   · exact need_er N.er t _ _ _ fun _ => by
       rw [hex e ek]
       cases ex e ek with
       | error _ => rfl
       | ok x => simp only [mapX]; rw [hex b bk]; cases ex b bk <;> rfl
   · rfl
 · rcases l with _ | ⟨v, vk, _ | ⟨e, ek, _ | ⟨b, bk, _ | ⟨_, _, _⟩⟩⟩⟩
   · rfl
   · rfl
   · rfl
   · simp only [Fo.er]
     rw [isFn_er]
     exact need_er N.er t _ _ _ fun _ => by
       rw [hex e ek]
       cases ex e ek with
       | error _ => rfl
       | ok x => simp only [mapX]; rw [hex b bk]; cases ex b bk <;> rfl
   · rfl
 · rw [Fo.er_len]; exact need_er N.er t _ _ _ fun _ => by rw [ih l]; cases eachM ex l <;> rfl
 · rw [Fo.er_len]; exact need_er N.er t _ _ _ fun _ => by rw [ih l]; cases eachM ex l <;> rfl
 · rw [Fo.er_len]; exact need_er N.er t _ _ _ fun _ => by rw [ih l]; cases eachM ex l <;> rfl
 · rw [Fo.er_len]
   refine need_er N.er t _ _ _ fun _ => ?_
   cases l with
   | nil => rfl
   | cons e ek arms =>
     simp only [Fo.er]
     rw [hex e ek]
     cases ex e ek with
     | error _ => rfl
     | ok x => simp only [mapX]; rw [iha arms]; cases eachM (armM n ex) arms <;> rfl
 · rcases l with _ | ⟨e, ek, _ | ⟨_, _, _⟩⟩
   · rfl
   · simp only [Fo.er]; rw [hex e ek]; cases ex e ek <;> rfl
   · rfl
theorem expM_er : ∀ (n : Nat) (t : Tok) (k : Fo), expM n t.er k.er = mapX N.er (expM n t k)
 | 0, _, _ => rfl
 | n + 1, t, k => by
   have ih := each_er (expM_er n)
   unfold expM
   refine if_er rfl (if_er rfl (if_er rfl (if_er rfl (if_er (need_er N.er t _ _ _ fun _ => rfl) ?_))))
   cases k with
   | nil => rfl
   | cons h kk l =>
     refine if_er ?_ (if_er (formM_er n _ (expM_er n) t h.tx l) ?_)
     · rw [Fo.er_len]; exact need_er N.er t _ _ _ fun _ => by rw [ih l]; cases eachM (expM n) l <;> rfl
     · rw [Fo.er_len]; exact need_er N.er t _ _ _ fun _ => by rw [ih (.cons h kk l)]; cases eachM (expM n) (.cons h kk l) <;> rfl
theorem dconM_er (n : Nat) (t : Tok) (k : Fo) : dconM n t.er k.er = mapX N.er (dconM n t k) := by
 unfold dconM
 cases k with
 | nil => rfl
 | cons h kk l =>
   have e : decide (((Fo.cons h kk l).er.len : Int) ≤ 9) = decide (((Fo.cons h kk l).len : Int) ≤ 9) := by simp only [Fo.er_len]
   show need t.er (t.k == 0 && (h.k == 6 && decide (((Fo.cons h kk l).er.len : Int) ≤ 9))) _ = _
   rw [e]
   exact need_er N.er t _ _ _ fun _ => by rw [each_er (typM_er n) l]; cases eachM (typM n) l <;> rfl
theorem tvarsM_er : ∀ k : Fo, tvarsM k.er = (tvarsM k).map Nd.er
 | .nil => rfl
 | .cons v _ r => by
   simp only [Fo.er, tvarsM, tvarsM_er r]
   rw [show v.er.isTypeVar = v.isTypeVar from rfl]
   split
   · cases tvarsM r <;> rfl
   · rfl
theorem topM_er (n : Nat) (t : Tok) (k : Fo) : topM n t.er k.er = mapX N.er (topM n t k) := by
 unfold topM
 cases k with
 | nil => rfl
 | cons h kk l =>
   refine need_er N.er t _ _ _ fun _ => if_er ?_ (if_er ?_ (if_er ?_ (if_er ?_ (if_er ?_ rfl))))
   · rcases l with _ | ⟨a, ak, _ | ⟨b, bk, _ | ⟨c, ck, r⟩⟩⟩
     · rfl
     · rfl
     · rfl
     · simp only [Fo.er]
       rw [Fo.er_len, tvarsM_er]
       refine need_er N.er t _ _ _ fun _ => ?_
       cases tvarsM bk with
       | none => rfl
       | some vs =>
         simp only [Option.map_some]
         rw [show eachM (dconM n) (Fo.cons c.er ck.er r.er) = _ from each_er (dconM_er n) (.cons c ck r)]
         cases eachM (dconM n) (.cons c ck r) with
         | error e => rfl
         | ok cs =>
           show Except.ok _ = Except.ok _
           rw [node_er, Nd.er_app]; rfl
   · rcases l with _ | ⟨a, ak, _ | ⟨b, bk, _ | ⟨c, ck, _ | ⟨_, _, _⟩⟩⟩⟩
     · rfl
     · rfl
     · rfl
     · exact need_er N.er t _ _ _ fun _ => by
         rw [typM_er n b bk]
         cases typM n b bk with
         | error _ => rfl
         | ok x => simp only [mapX]; rw [expM_er n c ck]; cases expM n c ck <;> rfl
     · rfl
   · rcases l with _ | ⟨a, ak, _ | ⟨b, bk, _ | ⟨_, _, _⟩⟩⟩
     · rfl
     · rfl
     · exact need_er N.er t _ _ _ fun _ => by rw [expM_er n b bk]; cases expM n b bk <;> rfl
     · rfl
   · rcases l with _ | ⟨a, ak, _ | ⟨b, bk, _ | ⟨_, _, _⟩⟩⟩
     · rfl
     · rfl
     · simp only [Fo.er]
       rw [isFn_er]
       exact need_er N.er t _ _ _ fun _ => by rw [expM_er n b bk]; cases expM n b bk <;> rfl
     · rfl
   · rcases l with _ | ⟨b, bk, _ | ⟨_, _, _⟩⟩
     · rfl
     · simp only [Fo.er]; rw [expM_er n b bk]; cases expM n b bk <;> rfl
     · rfl
theorem Fo.er_snoc : ∀ (a : Fo) (t : Tok) (k : Fo), (a.snoc t k).er = a.er.snoc t.er k.er
 | .nil, _, _ => rfl
 | .cons _ _ r, t, k => by simp only [Fo.snoc, Fo.er, Fo.er_snoc r t k]
def erS (st : List (Tok × Fo)) : List (Tok × Fo) := st.map fun x => (x.1.er, x.2.er)
theorem treesM_er : ∀ (l : List Tok) (st : List (Tok × Fo)) (cur : Fo), treesM (l.map Tok.er) (erS st) cur.er = mapX Fo.er (treesM l st cur)
 | [], [], cur => rfl
 | [], (o, p) :: s, cur => by
   have h1 : ∃ e, treesM [] ((o, p) :: s) cur = .error e := by unfold treesM; split <;> exact ⟨_, rfl⟩
   obtain ⟨e, he⟩ := h1
   rw [he]
   simp only [List.map_nil, erS, List.map_cons, treesM]
   split
   · rename_i q f hq
     have : q.ln = 0 ∧ q.co = 0 := by
       have hm := List.mem_of_getLast? hq
       rcases List.mem_cons.1 hm with h | h
       · cases h; exact ⟨rfl, rfl⟩
       · obtain ⟨x, _, hx⟩ := List.mem_map.1 h
         cases hx; exact ⟨rfl, rfl⟩
     rw [this.1, this.2]; rfl
   · rfl
 | k :: l, st, cur => by
   simp only [List.map_cons, treesM]
   refine if_er ?_ (if_er ?_ ?_)
   · rw [show (erS st).length = st.length from List.length_map _]
     exact if_er rfl (treesM_er l ((k, cur) :: st) .nil)
   · cases st with
     | nil => rfl
     | cons op s =>
       obtain ⟨o, p⟩ := op
       have := treesM_er l s (p.snoc o cur)
       rw [Fo.er_snoc] at this
       exact this
   · have := treesM_er l st (cur.snoc k .nil)
     rw [Fo.er_snoc] at this
     exact this
/-- Tokens as nodes. -/
def parsM (n : Nat) (l : List Tok) : R Nd := match treesM l [] .nil with
 | .error e => .error e
 | .ok fo => eachM (topM n) fo
theorem parsM_er (n : Nat) (l : List Tok) : parsM n (l.map Tok.er) = mapX Nd.er (parsM n l) := by
 unfold parsM
 rw [show treesM (l.map Tok.er) [] .nil = _ from treesM_er l [] .nil]
 cases treesM l [] .nil with
 | error e => rfl
 | ok fo => exact each_er (topM_er n) fo
end Go.SP
namespace Go.SP
theorem treesM_then : ∀ (l tb : List Tok) (st : List (Tok × Fo)) (cur fo : Fo), treesM l st cur = .ok fo → treesM (l ++ tb) st cur = treesM tb [] fo
 | [], tb, [], cur, fo, h => by cases h; rfl
 | [], tb, (o, p) :: s, cur, fo, h => by unfold treesM at h; split at h <;> cases h
 | k :: l, tb, st, cur, fo, h => by
   simp only [List.cons_append, treesM] at h ⊢
   split at h
   · rename_i h0
     rw [if_pos h0]
     split at h
     · cases h
     · rename_i h1
       rw [if_neg h1]
       exact treesM_then l tb _ _ fo h
   · rename_i h0
     rw [if_neg h0]
     split at h
     · rename_i h1
       rw [if_pos h1]
       cases st with
       | nil => cases h
       | cons op s => exact treesM_then l tb _ _ fo h
     · rename_i h1
       rw [if_neg h1]
       exact treesM_then l tb _ _ fo h
theorem Fo.app_nil : ∀ a : Fo, a.app .nil = a
 | .nil => rfl
 | .cons _ _ r => by simp only [Fo.app, Fo.app_nil r]
theorem Fo.app_snoc : ∀ (a b : Fo) (t : Tok) (k : Fo), (a.app b).snoc t k = a.app (b.snoc t k)
 | .nil, _, _, _ => rfl
 | .cons _ _ r, b, t, k => by simp only [Fo.app, Fo.snoc, Fo.app_snoc r b t k]
def bot (fa : Fo) : List (Tok × Fo) → List (Tok × Fo)
 | [] => []
 | [(o, p)] => [(o, fa.app p)]
 | x :: y :: s => x :: bot fa (y :: s)
def mapA (fa : Fo) : R Fo → R Fo
 | .error e => .error e
 | .ok fo => .ok (fa.app fo)
def cur0 (fa : Fo) (st : List (Tok × Fo)) (cur : Fo) : Fo := match st with
 | [] => fa.app cur
 | _ => cur
theorem bot_len (fa : Fo) : ∀ st, (bot fa st).length = st.length
 | [] => rfl
 | [_] => rfl
 | _ :: y :: s => by simp only [bot, List.length_cons, bot_len fa (y :: s)]
theorem bot_last (fa : Fo) : ∀ st, ((bot fa st).getLast?).map (·.1) = (st.getLast?).map (·.1)
 | [] => rfl
 | [_] => rfl
 | x :: y :: s => by
   have ih := bot_last fa (y :: s)
   have e : ∀ (z : Tok × Fo) (u : List (Tok × Fo)), u ≠ [] → (z :: u).getLast? = u.getLast? := fun z u hu => by cases u with | nil => exact absurd rfl hu | cons _ _ => rfl
   simp only [bot]
   rw [e x (bot fa (y :: s)) (fun h => by have := bot_len fa (y :: s); rw [h] at this; cases this), e x (y :: s) (by simp)]
   exact ih
theorem treesM_bot (fa : Fo) : ∀ (l : List Tok) (st : List (Tok × Fo)) (cur : Fo), treesM l (bot fa st) (cur0 fa st cur) = mapA fa (treesM l st cur)
 | [], [], cur => rfl
 | [], (o, p) :: s, cur => by
   have hl := bot_last fa ((o, p) :: s)
   have hb : ∃ o' p' s', bot fa ((o, p) :: s) = (o', p') :: s' := by cases s with | nil => exact ⟨_, _, _, rfl⟩ | cons y s => exact ⟨_, _, _, rfl⟩
   obtain ⟨o', p', s', hb⟩ := hb
   rw [hb] at hl ⊢
   simp only [treesM]
   cases h1 : ((o, p) :: s).getLast? with
   | none => simp at h1
   | some q =>
     cases h2 : ((o', p') :: s').getLast? with
     | none => simp at h2
     | some q' =>
       rw [h1, h2] at hl
       obtain ⟨a, b⟩ := q
       obtain ⟨a', b'⟩ := q'
       simp at hl
       simp only [hl]
       rfl
 | k :: l, st, cur => by
   simp only [treesM]
   rw [bot_len]
   split
   · split
     · rfl
     · have ih := treesM_bot fa l ((k, cur) :: st) .nil
       have e : (k, cur0 fa st cur) :: bot fa st = bot fa ((k, cur) :: st) := by cases st <;> rfl
       rw [e]
       exact ih
   · split
     · cases st with
       | nil => rfl
       | cons op s =>
         obtain ⟨o, p⟩ := op
         cases s with
         | nil =>
           have ih := treesM_bot fa l [] (p.snoc o cur)
           show treesM l [] ((fa.app p).snoc o cur) = _
           rw [Fo.app_snoc]
           exact ih
         | cons y s => exact treesM_bot fa l (y :: s) (p.snoc o cur)
     · have ih := treesM_bot fa l st (cur.snoc k .nil)
       have e : (cur0 fa st cur).snoc k .nil = cur0 fa st (cur.snoc k .nil) := by cases st with | nil => exact Fo.app_snoc fa cur k .nil | cons _ _ => rfl
       rw [e]
       exact ih
theorem treesM_app {ta tb : List Tok} {fa : Fo} (h : treesM ta [] .nil = .ok fa) : treesM (ta ++ tb) [] .nil = mapA fa (treesM tb [] .nil) := by
 rw [treesM_then ta tb [] .nil fa h]
 have := treesM_bot fa tb [] .nil
 rw [show cur0 fa [] .nil = fa from Fo.app_nil fa] at this
 exact this
theorem eachM_app (f : Tok → Fo → R N) : ∀ (a b : Fo), eachM f (a.app b) = (match eachM f a with
   | .error e => .error e
   | .ok x => match eachM f b with
     | .error e => .error e
     | .ok y => .ok (x.app y))
 | .nil, b => by simp only [Fo.app, eachM]; cases eachM f b <;> rfl
 | .cons t k r, b => by
   simp only [Fo.app, eachM, eachM_app f r b]
   cases f t k with
   | error e => rfl
   | ok a =>
     simp only []
     cases eachM f r with
     | error e => rfl
     | ok x => simp only []; cases eachM f b <;> rfl
/-- What is behind a program. -/
theorem parsM_ok {n : Nat} {ta tb : List Tok} {na : Nd} (h : parsM n ta = .ok na) : parsM n (ta ++ tb) = (match parsM n tb with | .error e => .error e | .ok nb => .ok (na.app nb)) := by
 unfold parsM at h ⊢
 cases hf : treesM ta [] .nil with
 | error e => rw [hf] at h; cases h
 | ok fa =>
   rw [hf] at h
   simp only at h
   rw [treesM_app hf]
   cases treesM tb [] .nil with
   | error e => rfl
   | ok fb =>
     simp only [mapA]
     rw [eachM_app, h]
def opens (l : List Tok) : Int := l.foldr (fun t z => z + (if t.k == 0 then 1 else if t.k == 1 then -1 else 0)) 0
theorem treesM_bad_then : ∀ (l tb : List Tok) (st : List (Tok × Fo)) (cur : Fo) (e : Int × Int), (st.length : Int) + opens l = 0 → treesM l st cur = .error e → ∃ e', treesM (l ++ tb) st cur = .error e'
 | [], tb, [], cur, e, _, h => by cases h
 | [], tb, (o, p) :: s, cur, e, h0, _ => by simp [opens] at h0; omega
 | k :: l, tb, st, cur, e, h0, h => by
   have ho : opens (k :: l) = opens l + (if k.k == 0 then 1 else if k.k == 1 then -1 else 0) := rfl
   rw [ho] at h0
   simp only [List.cons_append, treesM] at h ⊢
   split at h
   · rename_i h1
     rw [if_pos h1] at h0
     rw [if_pos h1]
     split at h
     · rename_i h2; rw [if_pos h2]; exact ⟨_, rfl⟩
     · rename_i h2
       rw [if_neg h2]
       exact treesM_bad_then l tb _ _ e (by simp only [List.length_cons]; omega) h
   · rename_i h1
     rw [if_neg h1] at h0
     rw [if_neg h1]
     split at h
     · rename_i h2
       rw [if_pos h2] at h0
       rw [if_pos h2]
       cases st with
       | nil => exact ⟨_, rfl⟩
       | cons op s => exact treesM_bad_then l tb _ _ e (by simp only [List.length_cons] at h0; omega) h
     · rename_i h2
       rw [if_neg h2] at h0
       rw [if_neg h2]
       exact treesM_bad_then l tb _ _ e (by omega) h
theorem parsM_bad {n : Nat} {ta tb : List Tok} {e : Int × Int} (ho : opens ta = 0) (h : parsM n ta = .error e) : ∃ e', parsM n (ta ++ tb) = .error e' := by
 unfold parsM at h ⊢
 cases hf : treesM ta [] .nil with
 | error e0 =>
   obtain ⟨e', he⟩ := treesM_bad_then ta tb [] .nil e0 (by simp [ho]) hf
   rw [he]; exact ⟨_, rfl⟩
 | ok fa =>
   rw [hf] at h
   simp only at h
   rw [treesM_app hf]
   cases treesM tb [] .nil with
   | error e => exact ⟨_, rfl⟩
   | ok fb =>
     simp only [mapA]
     rw [eachM_app, h]
     exact ⟨_, rfl⟩
end Go.SP
namespace Go.SP
open Go.SW Go.RowKit
def eE (x : Except Ps (UInt8 × List UInt8 × Ps)) : Option (UInt8 × List UInt8) := match x with
 | .error _ => none
 | .ok (b, r, _) => some (b, r)
def eStr (x : Except Ps (List UInt8 × List UInt8 × Ps)) : Option (List UInt8 × List UInt8) := match x with
 | .error _ => none
 | .ok (b, r, _) => some (b, r)
def eStep (x : Except Ps (List Tok × List UInt8 × Ps)) : Option (List Tok × List UInt8) := match x with
 | .error _ => none
 | .ok (t, r, _) => some (t.map Tok.er, r)
def eScan (x : Except Ps (List Tok)) : Option (List Tok) := match x with
 | .error _ => none
 | .ok l => some (l.map Tok.er)
theorem escM_p (p p' : Ps) (l : List UInt8) : eE (escM p l) = eE (escM p' l) := by
 cases l with
 | nil => rfl
 | cons c r =>
   simp only [escM]
   split
   · rfl
   · split
     · rfl
     · split
       · rfl
       · split
         · rcases r with _ | ⟨a, _ | ⟨b, r⟩⟩
           · rfl
           · rfl
           · simp only []
             split <;> rfl
         · rfl
theorem escM_short {p : Ps} {l r : List UInt8} {b : UInt8} {q : Ps} (h : escM p l = .ok (b, r, q)) : r.length < l.length := by
 cases l with
 | nil => cases h
 | cons c l =>
   simp only [escM] at h
   repeat' split at h
   all_goals first
     | (cases h; done)
     | (cases h; simp; done)
     | (cases h; simp; omega)
theorem strM_p : ∀ (F : Nat) (l : List UInt8) (F' : Nat) (s s' p p' : Ps) (acc : List UInt8), l.length < F → l.length < F' → eStr (strM s F p acc l) = eStr (strM s' F' p' acc l)
 | 0, l, F', s, s', p, p', acc, h, h' => by cases h
 | F + 1, [], F', s, s', p, p', acc, h, h' => by
   cases F' with
   | zero => cases h'
   | succ F' => rfl
 | F + 1, c :: r, F', s, s', p, p', acc, h, h' => by
     cases F' with
     | zero => cases h'
     | succ F' =>
       simp only [List.length_cons] at h h'
       rw [strM_cons, strM_cons]
       split
       · split <;> rfl
       · split
         · rfl
         · split
           · exact strM_p F r F' s s' _ _ _ (by omega) (by omega)
           · cases r with
             | nil => rfl
             | cons d r =>
               have he := escM_p (adv c p) (adv c p') (d :: r)
               cases h1 : escM (adv c p) (d :: r) with
               | error e =>
                 rw [h1] at he
                 cases h2 : escM (adv c p') (d :: r) with
                 | error e' => simp only [h1, h2]; rfl
                 | ok x => rw [h2] at he; cases he
               | ok x =>
                 obtain ⟨b, r1, q⟩ := x
                 rw [h1] at he
                 cases h2 : escM (adv c p') (d :: r) with
                 | error e' => rw [h2] at he; cases he
                 | ok y =>
                   obtain ⟨b', r1', q'⟩ := y
                   rw [h2] at he
                   simp only [eE, Option.some.injEq, Prod.mk.injEq] at he
                   obtain ⟨rfl, rfl⟩ := he
                   have hs := escM_short h1
                   simp only [List.length_cons] at hs h h'
                   simp only [h1, h2]
                   exact strM_p F r1 F' s s' _ _ _ (by omega) (by omega)
theorem comM_p (p p' : Ps) : ∀ l, (comM p l).1 = (comM p' l).1
 | [] => rfl
 | c :: r => by
   simp only [comM]
   split
   · exact comM_p _ _ r
   · rfl
theorem spanM_p : ∀ (l : List UInt8) (p p' : Ps), (spanM p l).1 = (spanM p' l).1 ∧ (spanM p l).2.1 = (spanM p' l).2.1
 | [], _, _ => ⟨rfl, rfl⟩
 | c :: r, p, p' => by
   simp only [spanM]
   split
   · have ih := spanM_p r (adv c p) (adv c p')
     exact ⟨by simp only [ih.1], ih.2⟩
   · exact ⟨rfl, rfl⟩
theorem stepM_p {F F' : Nat} (p p' : Ps) (l : List UInt8) (h : l.length ≤ F) (h' : l.length ≤ F') : eStep (stepM F p l) = eStep (stepM F' p' l) := by
 cases l with
 | nil => rfl
 | cons c r =>
   simp only [List.length_cons] at h h'
   rw [stepM_cons, stepM_cons]
   split
   · rfl
   · split
     · simp only [eStep, List.map_nil]; rw [comM_p (adv c p) (adv c p')]
     · split
       · rfl
       · split
         · rfl
         · split
           · have hs := strM_p F r F' p p' (adv c p) (adv c p') [] (by omega) (by omega)
             cases h1 : strM p F (adv c p) [] r with
             | error e =>
               rw [h1] at hs
               cases h2 : strM p' F' (adv c p') [] r with
               | error e' => rfl
               | ok x => rw [h2] at hs; cases hs
             | ok x =>
               obtain ⟨tx, r1, q⟩ := x
               rw [h1] at hs
               cases h2 : strM p' F' (adv c p') [] r with
               | error e' => rw [h2] at hs; cases hs
               | ok y =>
                 obtain ⟨tx', r1', q'⟩ := y
                 rw [h2] at hs
                 simp only [eStr, Option.some.injEq, Prod.mk.injEq] at hs
                 obtain ⟨rfl, rfl⟩ := hs
                 rfl
           · have hs := spanM_p r (adv c p) (adv c p')
             rw [← hs.1]
             cases wordM (c :: (spanM (adv c p) r).1) with
             | none => rfl
             | some x =>
               obtain ⟨k, nm, tx⟩ := x
               simp only [eStep, List.map_cons, List.map_nil]
               rw [hs.2]
               rfl
theorem comM_short (p : Ps) : ∀ l, (comM p l).1.length ≤ l.length
 | [] => Nat.le_refl _
 | c :: r => by
   simp only [comM]
   split
   · have := comM_short (adv c p) r; simp only [List.length_cons]; omega
   · exact Nat.le_refl _
theorem spanM_short : ∀ (l : List UInt8) (p : Ps), (spanM p l).2.1.length ≤ l.length
 | [], _ => Nat.le_refl _
 | c :: r, p => by
   simp only [spanM]
   split
   · have := spanM_short r (adv c p); simp only [List.length_cons]; omega
   · exact Nat.le_refl _
theorem strM_short {s : Ps} : ∀ (F : Nat) (p : Ps) (acc l tx r : List UInt8) (q : Ps), strM s F p acc l = .ok (tx, r, q) → r.length ≤ l.length
 | 0, _, _, _, _, _, _, h => by cases h
 | F + 1, p, acc, [], tx, r, q, h => by cases h
 | F + 1, p, acc, c :: l, tx, r, q, h => by
   simp only [List.length_cons]
   rw [strM_cons] at h
   split at h
   · split at h
     · cases h
     · cases h; omega
   · split at h
     · cases h
     · split at h
       · have := strM_short F _ _ _ tx r q h; omega
       · split at h
         · cases h
         · split at h
           · cases h
           · rename_i he
             have := strM_short F _ _ _ tx r q h
             have := escM_short he
             omega
theorem stepM_short {F : Nat} {p q : Ps} {l r : List UInt8} {t : List Tok} (h : stepM F p l = .ok (t, r, q)) : r.length < l.length := by
 cases l with
 | nil => cases h
 | cons c l =>
   simp only [List.length_cons]
   rw [stepM_cons] at h
   split at h
   · cases h; omega
   · split at h
     · simp only [Except.ok.injEq, Prod.mk.injEq] at h
       have := comM_short (adv c p) l
       rw [h.2] at this
       simp only at this
       omega
     · split at h
       · cases h; omega
       · split at h
         · cases h; omega
         · split at h
           · split at h
             · cases h
             · rename_i hs
               cases h
               have := strM_short _ _ _ _ _ _ _ hs
               omega
           · split at h
             · cases h
             · simp only [Except.ok.injEq, Prod.mk.injEq] at h
               have := spanM_short l (adv c p)
               rw [h.2] at this
               simp only at this
               omega
theorem scanM_p : ∀ (n : Nat) (l : List UInt8) (n' F F' : Nat) (p p' : Ps), l.length ≤ n → l.length ≤ n' → l.length ≤ F → l.length ≤ F' → eScan (scanM F n p l) = eScan (scanM F' n' p' l)
 | n, [], n', F, F', p, p', _, _, _, _ => by rw [scanM_nil, scanM_nil]
 | 0, c :: r, _, _, _, _, _, h, _, _, _ => by simp at h
 | n + 1, c :: r, 0, _, _, _, _, _, h, _, _ => by simp at h
 | n + 1, c :: r, n' + 1, F, F', p, p', h1, h2, h3, h4 => by
   rw [scanM_cons, scanM_cons]
   have hs := stepM_p (F := F) (F' := F') p p' (c :: r) h3 h4
   simp only [List.length_cons] at h1 h2 h3 h4
   cases e1 : stepM F p (c :: r) with
   | error e =>
     rw [e1] at hs
     cases e2 : stepM F' p' (c :: r) with
     | error e' => rfl
     | ok x => rw [e2] at hs; cases hs
   | ok x =>
     obtain ⟨t, r1, q⟩ := x
     rw [e1] at hs
     cases e2 : stepM F' p' (c :: r) with
     | error e' => rw [e2] at hs; cases hs
     | ok y =>
       obtain ⟨t', r1', q'⟩ := y
       rw [e2] at hs
       simp only [eStep, Option.some.injEq, Prod.mk.injEq] at hs
       obtain ⟨ht, rfl⟩ := hs
       have hl := stepM_short e1
       simp only [List.length_cons] at hl
       have ih := scanM_p n r1 n' F F' q q' (by omega) (by omega) (by omega) (by omega)
       simp only []
       cases e3 : scanM F n q r1 with
       | error e =>
         rw [e3] at ih
         cases e4 : scanM F' n' q' r1 with
         | error e' => rfl
         | ok x => rw [e4] at ih; cases ih
       | ok x =>
         rw [e3] at ih
         cases e4 : scanM F' n' q' r1 with
         | error e' => rw [e4] at ih; cases ih
         | ok y =>
           rw [e4] at ih
           simp only [eScan, Option.some.injEq] at ih ⊢
           rw [List.map_append, List.map_append, ht, ih]
/-- The tokens of a text, without places. -/
def scO (l : List UInt8) : Option (List Tok) := eScan (scanM (l.length + 1) l.length (1, 1) l)
def stO (l : List UInt8) : Option (List Tok × List UInt8) := eStep (stepM l.length (1, 1) l)
theorem scO_of {F n : Nat} {p : Ps} {l : List UInt8} (h1 : l.length ≤ n) (h2 : l.length ≤ F) : eScan (scanM F n p l) = scO l := scanM_p _ _ _ _ _ _ _ h1 (Nat.le_refl _) h2 (by omega)
theorem stO_of {F : Nat} {p : Ps} {l : List UInt8} (h : l.length ≤ F) : eStep (stepM F p l) = stO l := stepM_p _ _ _ h (Nat.le_refl _)
theorem scO_nil : scO [] = some [] := rfl
theorem scO_cons (c : UInt8) (r : List UInt8) : scO (c :: r) = (match stO (c :: r) with
   | none => none
   | some (t, r') => (scO r').map (t ++ ·)) := by
 unfold scO
 rw [List.length_cons, scanM_cons]
 have hs := stO_of (F := r.length + 1 + 1) (p := (1, 1)) (l := c :: r) (by simp only [List.length_cons]; omega)
 cases h : stepM (r.length + 1 + 1) (1, 1) (c :: r) with
 | error e => rw [h] at hs; rw [← hs]; rfl
 | ok x =>
   obtain ⟨t, r1, q⟩ := x
   rw [h] at hs
   rw [← hs]
   simp only [eStep]
   have hl := stepM_short h
   simp only [List.length_cons] at hl
   have := scO_of (F := r.length + 1 + 1) (n := r.length) (p := q) (l := r1) (by omega) (by omega)
   unfold scO at this
   rw [← this]
   cases scanM (r.length + 1 + 1) r.length q r1 with
   | error e => rfl
   | ok l => simp [eScan]
theorem stO_short {l r : List UInt8} {t : List Tok} (h : stO l = some (t, r)) : r.length < l.length := by
 unfold stO at h
 cases e : stepM l.length (1, 1) l with
 | error e' => rw [e] at h; cases h
 | ok x =>
   obtain ⟨t', r', q⟩ := x
   rw [e] at h
   simp only [eStep, Option.some.injEq, Prod.mk.injEq] at h
   rw [← h.2]
   exact stepM_short e
/-! A text behind another. -/
theorem comM_app (b : List UInt8) : ∀ (l : List UInt8) (p : Ps), (comM p (l ++ 10 :: b)).1 = (comM p l).1 ++ 10 :: b
 | [], p => by simp [comM]
 | c :: r, p => by
   simp only [List.cons_append, comM]
   split
   · exact comM_app b r _
   · rfl
theorem spanM_app (b : List UInt8) : ∀ (l : List UInt8) (p : Ps), (spanM p (l ++ 10 :: b)).1 = (spanM p l).1 ∧ (spanM p (l ++ 10 :: b)).2.1 = (spanM p l).2.1 ++ 10 :: b
 | [], p => by
   have : decide (Lib.indexByte endsB 10 < 0) = false := by decide
   simp [spanM, this]
 | c :: r, p => by
   simp only [List.cons_append, spanM]
   split
   · have ih := spanM_app b r (adv c p)
     exact ⟨by simp only [ih.1], ih.2⟩
   · exact ⟨rfl, rfl⟩
theorem escM_app {p q : Ps} {l r : List UInt8} {x : UInt8} (t : List UInt8) (h : escM p l = .ok (x, r, q)) : escM p (l ++ t) = .ok (x, r ++ t, q) := by
 cases l with
 | nil => cases h
 | cons c l =>
   simp only [escM, List.cons_append] at h ⊢
   split at h
   · rename_i h1; rw [if_pos h1]; cases h; rfl
   · rename_i h1
     rw [if_neg h1]
     split at h
     · rename_i h2; rw [if_pos h2]; cases h; rfl
     · rename_i h2
       rw [if_neg h2]
       split at h
       · rename_i h3; rw [if_pos h3]; cases h; rfl
       · rename_i h3
         rw [if_neg h3]
         split at h
         · rename_i h4
           rw [if_pos h4]
           rcases l with _ | ⟨a, _ | ⟨d, l⟩⟩
           · cases h
           · cases h
           · simp only [List.cons_append] at h ⊢
             split at h
             · rename_i h5; rw [if_pos h5]; cases h; rfl
             · cases h
         · cases h
theorem strM_app {s : Ps} (t : List UInt8) : ∀ (F : Nat) (p : Ps) (acc l tx r : List UInt8) (q : Ps), strM s F p acc l = .ok (tx, r, q) → strM s F p acc (l ++ t) = .ok (tx, r ++ t, q)
 | 0, _, _, _, _, _, _, h => by cases h
 | F + 1, p, acc, [], tx, r, q, h => by cases h
 | F + 1, p, acc, c :: l, tx, r, q, h => by
   rw [List.cons_append]
   rw [strM_cons] at h ⊢
   split at h
   · rename_i h1
     rw [if_pos h1]
     split at h
     · cases h
     · rename_i h2; rw [if_neg h2]; cases h; rfl
   · rename_i h1
     rw [if_neg h1]
     split at h
     · cases h
     · rename_i h2
       rw [if_neg h2]
       split at h
       · rename_i h3; rw [if_pos h3]; exact strM_app t F _ _ l tx r q h
       · rename_i h3
         rw [if_neg h3]
         cases l with
         | nil => cases h
         | cons d l =>
           simp only [] at h
           split at h
           · cases h
           · rename_i he
             have := escM_app t he
             rw [List.cons_append] at this ⊢
             simp only [this]
             exact strM_app t F _ _ _ tx r q h
theorem stO_app {l r : List UInt8} {t : List Tok} (b : List UInt8) (h : stO l = some (t, r)) : stO (l ++ 10 :: b) = some (t, r ++ 10 :: b) := by
 rw [← stO_of (F := (l ++ 10 :: b).length) (p := (1, 1)) (l := l) (by simp)] at h
 unfold stO
 generalize (l ++ 10 :: b).length = F at h ⊢
 cases l with
 | nil => cases h
 | cons c l =>
   rw [List.cons_append]
   rw [stepM_cons] at h ⊢
   split at h
   · rename_i h1; rw [if_pos h1]; simp only [eStep, Option.some.injEq, Prod.mk.injEq] at h ⊢; rw [← h.1, ← h.2]; exact ⟨rfl, rfl⟩
   · rename_i h1
     rw [if_neg h1]
     split at h
     · rename_i h2
       rw [if_pos h2]
       simp only [eStep, Option.some.injEq, Prod.mk.injEq] at h ⊢
       rw [← h.1, ← h.2]
       exact ⟨rfl, comM_app b l _⟩
     · rename_i h2
       rw [if_neg h2]
       split at h
       · rename_i h3; rw [if_pos h3]; simp only [eStep, Option.some.injEq, Prod.mk.injEq] at h ⊢; rw [← h.1, ← h.2]; exact ⟨rfl, rfl⟩
       · rename_i h3
         rw [if_neg h3]
         split at h
         · rename_i h4; rw [if_pos h4]; simp only [eStep, Option.some.injEq, Prod.mk.injEq] at h ⊢; rw [← h.1, ← h.2]; exact ⟨rfl, rfl⟩
         · rename_i h4
           rw [if_neg h4]
           split at h
           · rename_i h5
             rw [if_pos h5]
             cases e : strM (1, 1) F (adv c (1, 1)) [] l with
             | error e' => rw [e] at h; cases h
             | ok x =>
               obtain ⟨tx, r1, q⟩ := x
               rw [e] at h
               rw [strM_app (10 :: b) F _ _ _ _ _ _ e]
               simp only [eStep, Option.some.injEq, Prod.mk.injEq] at h ⊢
               rw [← h.1, ← h.2]; exact ⟨rfl, rfl⟩
           · rename_i h5
             rw [if_neg h5]
             have ha := spanM_app b l (adv c (1, 1))
             rw [ha.1]
             cases e : wordM (c :: (spanM (adv c (1, 1)) l).1) with
             | none => rw [e] at h; cases h
             | some x =>
               obtain ⟨k, nm, tx⟩ := x
               rw [e] at h
               simp only [eStep, Option.some.injEq, Prod.mk.injEq] at h ⊢
               rw [← h.1, ← h.2]; exact ⟨rfl, ha.2⟩
theorem stO_bad {c : UInt8} {l : List UInt8} (b : List UInt8) (hc : ((c.toNat : Int) == 34) = false) (h : stO (c :: l) = none) : stO (c :: l ++ 10 :: b) = none := by
 rw [← stO_of (F := (c :: l ++ 10 :: b).length) (p := (1, 1)) (l := c :: l) (by simp)] at h
 unfold stO
 generalize (c :: l ++ 10 :: b).length = F at h ⊢
 rw [List.cons_append]
 rw [stepM_cons] at h ⊢
 split at h
 · cases h
 · rename_i h1
   rw [if_neg h1]
   split at h
   · cases h
   · rename_i h2
     rw [if_neg h2]
     split at h
     · cases h
     · rename_i h3
       rw [if_neg h3]
       split at h
       · cases h
       · rename_i h4
         rw [if_neg h4]
         split at h
         · rename_i h5; rw [hc] at h5; cases h5
         · rename_i h5
           rw [if_neg h5]
           have ha := spanM_app b l (adv c (1, 1))
           rw [ha.1]
           cases e : wordM (c :: (spanM (adv c (1, 1)) l).1) with
           | none => rfl
           | some x => rw [e] at h; cases h
theorem scO_blank (b : List UInt8) : scO (10 :: b) = scO b := by
 rw [scO_cons]
 have : stO (10 :: b) = some ([], b) := rfl
 rw [this]
 simp
theorem scO_app (b : List UInt8) : ∀ (n : Nat) (a : List UInt8) (ta : List Tok), a.length ≤ n → scO a = some ta → scO (a ++ 10 :: b) = (scO b).map (ta ++ ·)
 | n, [], ta, _, h => by
   rw [scO_nil] at h
   cases h
   rw [List.nil_append, scO_blank]
   simp
 | 0, c :: a, ta, hn, _ => by simp at hn
 | n + 1, c :: a, ta, hn, h => by
   rw [scO_cons] at h
   cases hs : stO (c :: a) with
   | none => rw [hs] at h; cases h
   | some x =>
     obtain ⟨t, r⟩ := x
     rw [hs] at h
     simp only at h
     have hl := stO_short hs
     have hs' := stO_app b hs
     simp only [List.length_cons] at hn hl
     cases hr : scO r with
     | none => rw [hr] at h; cases h
     | some tr =>
       rw [hr] at h
       cases h
       rw [List.cons_append] at hs' ⊢
       rw [scO_cons, hs']
       simp only []
       rw [scO_app b n r tr (by omega) hr]
       cases scO b <;> simp
/-! Brackets, as bytes and as tokens. -/
def brk (k : Int) : Int := if k == 40 then 1 else if k == 41 then -1 else 0
def cntB : List UInt8 → Int
 | [] => 0
 | c :: l => brk c.toNat + cntB l
theorem cntB_app : ∀ a b : List UInt8, cntB (a ++ b) = cntB a + cntB b
 | [], b => by simp [cntB]
 | c :: a, b => by simp only [List.cons_append, cntB, cntB_app a b]; omega
theorem opens_app : ∀ a b : List Tok, opens (a ++ b) = opens a + opens b
 | [], b => by simp [opens]
 | t :: a, b => by
   have h := opens_app a b
   have e : ∀ l, opens (t :: l) = opens l + (if t.k == 0 then 1 else if t.k == 1 then -1 else 0) := fun l => rfl
   rw [List.cons_append, e, e, h]
   omega
def noQ (l : List UInt8) : Prop := ∀ c ∈ l, ((c.toNat : Int) == 34) = false ∧ ((c.toNat : Int) == 59) = false
theorem ends_not {c : UInt8} (h : decide (Lib.indexByte endsB c < 0) = true) : brk c.toNat = 0 := by
 have key : ∀ c : UInt8, (decide (Lib.indexByte endsB c < 0) = true → brk c.toNat = 0) := by
   intro c hc
   unfold brk
   split
   · rename_i h1
     have : c = 40 := UInt8.toNat_inj.1 (by have := beq_iff_eq.1 h1; simp; omega)
     subst this
     exact absurd hc (by decide)
   · split
     · rename_i h1
       have : c = 41 := UInt8.toNat_inj.1 (by have := beq_iff_eq.1 h1; simp; omega)
       subst this
       exact absurd hc (by decide)
     · rfl
 exact key c h
theorem spanM_parts : ∀ (l : List UInt8) (p : Ps), (spanM p l).1 ++ (spanM p l).2.1 = l ∧ cntB (spanM p l).1 = 0
 | [], _ => ⟨rfl, rfl⟩
 | c :: r, p => by
   simp only [spanM]
   split
   · rename_i h
     have ih := spanM_parts r (adv c p)
     refine ⟨by simp only [List.cons_append, ih.1], ?_⟩
     simp only [cntB, ih.2, ends_not h]
     rfl
   · exact ⟨rfl, rfl⟩
theorem blank_not {c : UInt8} (h : decide ((0 : Int) ≤ Lib.indexByte blanksB c) = true) : brk c.toNat = 0 := by
 unfold brk
 split
 · rename_i h1
   have : c = 40 := UInt8.toNat_inj.1 (by have := beq_iff_eq.1 h1; simp; omega)
   subst this
   exact absurd h (by decide)
 · split
   · rename_i h1
     have : c = 41 := UInt8.toNat_inj.1 (by have := beq_iff_eq.1 h1; simp; omega)
     subst this
     exact absurd h (by decide)
   · rfl
theorem stO_cnt {l r : List UInt8} {t : List Tok} (hq : noQ l) (h : stO l = some (t, r)) : noQ r ∧ cntB l = opens t + cntB r := by
 unfold stO at h
 cases l with
 | nil => cases h
 | cons c l =>
   have hc := hq c (.head _)
   have hl : noQ l := fun x hx => hq x (.tail _ hx)
   rw [stepM_cons] at h
   split at h
   · rename_i h1
     simp only [eStep, Option.some.injEq, Prod.mk.injEq] at h
     rw [← h.1, ← h.2]
     refine ⟨hl, ?_⟩
     simp only [cntB, blank_not h1]
     rfl
   · split at h
     · rename_i h2; rw [hc.2] at h2; cases h2
     · split at h
       · rename_i h3
         simp only [eStep, Option.some.injEq, Prod.mk.injEq] at h
         rw [← h.1, ← h.2]
         refine ⟨hl, ?_⟩
         have hb : brk c.toNat = 1 := by unfold brk; rw [if_pos h3]
         simp only [cntB, hb]
         rfl
       · rename_i h3
         split at h
         · rename_i h4
           simp only [eStep, Option.some.injEq, Prod.mk.injEq] at h
           rw [← h.1, ← h.2]
           refine ⟨hl, ?_⟩
           have hb : brk c.toNat = -1 := by unfold brk; rw [if_neg h3, if_pos h4]
           simp only [cntB, hb]
           rfl
         · rename_i h4
           split at h
           · rename_i h5; rw [hc.1] at h5; cases h5
           · have hb : brk c.toNat = 0 := by unfold brk; rw [if_neg h3, if_neg h4]
             have hp := spanM_parts l (adv c (1, 1))
             cases e : wordM (c :: (spanM (adv c (1, 1)) l).1) with
             | none => rw [e] at h; cases h
             | some x =>
               obtain ⟨k, nm, tx⟩ := x
               rw [e] at h
               simp only [eStep, Option.some.injEq, Prod.mk.injEq] at h
               have hk := (wordM_ok (by simp) e).2.2
               have h0 : opens t = 0 := by
                 rw [← h.1]
                 have e1 : (k == 0) = false := by simpa using hk.1
                 have e2 : (k == 1) = false := by simpa using hk.2
                 simp [opens, Tok.er, hk.1, hk.2]
               rw [← h.2, h0]
               have e3 : cntB l = cntB (spanM (adv c (1, 1)) l).2.1 := by
                 have := congrArg cntB hp.1
                 rw [cntB_app, hp.2] at this
                 omega
               refine ⟨fun x hx => hl x (by rw [← hp.1]; exact List.mem_append_right _ hx), ?_⟩
               simp only [cntB, hb]
               rw [e3]
theorem scO_cnt : ∀ (n : Nat) (a : List UInt8) (ta : List Tok), a.length ≤ n → noQ a → scO a = some ta → opens ta = cntB a
 | n, [], ta, _, _, h => by rw [scO_nil] at h; cases h; rfl
 | 0, c :: a, ta, hn, _, _ => by simp at hn
 | n + 1, c :: a, ta, hn, hq, h => by
   rw [scO_cons] at h
   cases hs : stO (c :: a) with
   | none => rw [hs] at h; cases h
   | some x =>
     obtain ⟨t, r⟩ := x
     rw [hs] at h
     simp only at h
     have hl := stO_short hs
     have hc := stO_cnt hq hs
     simp only [List.length_cons] at hn hl
     cases hr : scO r with
     | none => rw [hr] at h; cases h
     | some tr =>
       rw [hr] at h
       cases h
       rw [opens_app, hc.2, scO_cnt n r tr (by omega) hc.1 hr]
theorem scO_bad (b : List UInt8) : ∀ (n : Nat) (a : List UInt8), a.length ≤ n → noQ a → scO a = none → scO (a ++ 10 :: b) = none
 | n, [], _, _, h => by rw [scO_nil] at h; cases h
 | 0, c :: a, hn, _, _ => by simp at hn
 | n + 1, c :: a, hn, hq, h => by
   rw [scO_cons] at h
   cases hs : stO (c :: a) with
   | none =>
     have := stO_bad b (hq c (.head _)).1 hs
     rw [List.cons_append] at this ⊢
     rw [scO_cons, this]
   | some x =>
     obtain ⟨t, r⟩ := x
     rw [hs] at h
     simp only at h
     have hl := stO_short hs
     have hc := stO_cnt hq hs
     have hs' := stO_app b hs
     simp only [List.length_cons] at hn hl
     cases hr : scO r with
     | some tr => rw [hr] at h; cases h
     | none =>
       have ih := scO_bad b n r (by omega) hc.1 hr
       rw [List.cons_append] at hs' ⊢
       rw [scO_cons, hs']
       simp only []
       rw [ih]
       rfl
/-! Texts as nodes. -/
def pO (n : Nat) (l : List UInt8) : Option Nd := match scO l with
 | none => none
 | some t => match parsM n t with
   | .error _ => none
   | .ok x => some x
theorem pO_app {n : Nat} {a b : List UInt8} {x : Nd} (h : pO n a = some x) : pO n (a ++ 10 :: b) = (pO n b).map (x.app ·) := by
 unfold pO at h ⊢
 cases ha : scO a with
 | none => rw [ha] at h; cases h
 | some ta =>
   rw [ha] at h
   simp only at h
   rw [scO_app b a.length a ta (Nat.le_refl _) ha]
   cases hb : scO b with
   | none => rfl
   | some tb =>
     simp only [Option.map_some]
     cases hp : parsM n ta with
     | error e => rw [hp] at h; cases h
     | ok y =>
       rw [hp] at h
       cases h
       rw [parsM_ok hp]
       cases parsM n tb <;> rfl
theorem pO_bad {n : Nat} {a b : List UInt8} {z : Nd} (hq : noQ a) (h0 : cntB a = 0) (h : pO n (a ++ 10 :: b) = some z) : (∃ x, pO n a = some x) ∧ ∃ y, pO n b = some y := by
 have ha : ∃ x, pO n a = some x := by
   cases hp : pO n a with
   | some x => exact ⟨x, rfl⟩
   | none =>
     exfalso
     unfold pO at hp h
     cases hs : scO a with
     | none =>
       rw [scO_bad b a.length a (Nat.le_refl _) hq hs] at h
       cases h
     | some ta =>
       rw [hs] at hp
       simp only at hp
       rw [scO_app b a.length a ta (Nat.le_refl _) hs] at h
       cases hb : scO b with
       | none => rw [hb] at h; cases h
       | some tb =>
         rw [hb] at h
         simp only [Option.map_some] at h
         cases hpa : parsM n ta with
         | ok x => rw [hpa] at hp; cases hp
         | error e =>
           obtain ⟨e', he⟩ := parsM_bad (tb := tb) (by rw [scO_cnt a.length a ta (Nat.le_refl _) hq hs, h0]) hpa
           rw [he] at h
           cases h
 obtain ⟨x, hx⟩ := ha
 refine ⟨⟨x, hx⟩, ?_⟩
 rw [pO_app hx] at h
 cases hb : pO n b with
 | some y => exact ⟨y, rfl⟩
 | none => rw [hb] at h; cases h
/-- What Program tells, but for places. -/
theorem progM_pO (n : Nat) (src : List UInt8) (hl : src.length ≤ 65536) :
   (∀ x, pO n src = some x → (progM n (lexM src)).1.er = x ∧ (progM n (lexM src)).2.2.2 = 0) ∧ (pO n src = none → (progM n (lexM src)).2.2.2 ≠ 0) := by
 have hlx : lexM src = (match scanM (src.length + 1) src.length (1, 1) src with
   | .error e => .error (e.1, e.2, 10)
   | .ok l => .ok l) := by
   unfold lexM
   rw [if_neg (by simp; omega)]
   rfl
 rw [hlx]
 unfold pO scO
 cases scanM (src.length + 1) src.length (1, 1) src with
 | error e => exact ⟨fun x h => (by cases h), fun _ => by simp [progM]⟩
 | ok l =>
   simp only [eScan]
   rw [parsM_er]
   unfold progM parsM
   simp only []
   cases treesM l [] .nil with
   | error e => exact ⟨fun x h => (by cases h), fun _ => by simp⟩
   | ok fo =>
     simp only []
     cases eachM (topM n) fo with
     | error e => exact ⟨fun x h => (by cases h), fun _ => by simp⟩
     | ok nds => exact ⟨fun x h => by cases h; exact ⟨rfl, rfl⟩, fun h => by cases h⟩
end Go.SP
namespace Go.SP
open Go.SW Go.RowKit
def signW (c : UInt8) : Bool := (c.toNat : Int) == 39 || ((c.toNat : Int) == 43 || ((c.toNat : Int) == 42 || ((c.toNat : Int) == 47 || ((c.toNat : Int) == 60 || ((c.toNat : Int) == 62 || ((c.toNat : Int) == 61 || ((c.toNat : Int) == 33 || ((c.toNat : Int) == 63 || ((c.toNat : Int) == 95 || ((c.toNat : Int) == 46 || (c.toNat : Int) == 45))))))))))
def smallW (c : UInt8) : Bool := decide ((97 : Int) ≤ c.toNat) && decide ((c.toNat : Int) ≤ 122)
def greatW (c : UInt8) : Bool := decide ((65 : Int) ≤ c.toNat) && decide ((c.toNat : Int) ≤ 90)
def digW (c : UInt8) : Bool := decide ((48 : Int) ≤ c.toNat) && decide ((c.toNat : Int) ≤ 57)
def okW (i : Nat) (c : UInt8) : Bool := smallW c || (signW c || (decide ((0 : Int) < i) && (greatW c || digW c)))
def wordW : Nat → List UInt8 → Bool
 | _, [] => true
 | i, c :: l => okW i c && wordW (i + 1) l
theorem wordW_snoc : ∀ (l : List UInt8) (i : Nat) (c : UInt8), wordW i (l ++ [c]) = (wordW i l && okW (i + l.length) c)
 | [], i, c => by simp [wordW]
 | d :: l, i, c => by
   simp only [List.cons_append, wordW, wordW_snoc l (i + 1) c, List.length_cons, Bool.and_assoc]
   rw [show i + 1 + l.length = i + (l.length + 1) by omega]
def numC (c : UInt8) : Bool := digW c || (c.toNat : Int) == 46
def numW (w : List UInt8) : Bool := decide ((1 : Int) < w.length) && ((hd0 w).toNat : Int) == 45
theorem small_in : ∀ c : UInt8, smallW c = smallB.contains c := by
 intro c
 have : ∀ n : Fin 256, smallW (UInt8.ofNat n.val) = smallB.contains (UInt8.ofNat n.val) := by decide +kernel
 have := this ⟨c.toNat, c.toNat_lt⟩
 simpa using this
theorem sign_in : ∀ c : UInt8, signW c = signsB.contains c := by
 intro c
 have : ∀ n : Fin 256, signW (UInt8.ofNat n.val) = signsB.contains (UInt8.ofNat n.val) := by decide +kernel
 have := this ⟨c.toNat, c.toNat_lt⟩
 simpa using this
theorem great_in : ∀ c : UInt8, greatW c = greatB.contains c := by
 intro c
 have : ∀ n : Fin 256, greatW (UInt8.ofNat n.val) = greatB.contains (UInt8.ofNat n.val) := by decide +kernel
 have := this ⟨c.toNat, c.toNat_lt⟩
 simpa using this
theorem dig_in : ∀ c : UInt8, digW c = digsB.contains c := by
 intro c
 have : ∀ n : Fin 256, digW (UInt8.ofNat n.val) = digsB.contains (UInt8.ofNat n.val) := by decide +kernel
 have := this ⟨c.toNat, c.toNat_lt⟩
 simpa using this
/-- Bytes of words: none ends one. -/
theorem ok_all {c : UInt8} {i : Nat} (h : okW i c = true) : (smallW c || (signW c || (greatW c || digW c))) = true := by
 unfold okW at h
 cases h1 : smallW c <;> cases h2 : signW c <;> simp_all
theorem ok_first {c : UInt8} (h : okW 0 c = true) : (smallW c || signW c) = true := by
 unfold okW at h
 simpa using h
theorem ok_fact : ∀ c : UInt8, (smallW c || (signW c || (greatW c || digW c))) = true → decide (Lib.indexByte endsB c < 0) = true ∧ c ≠ 32 := by
 intro c
 have : ∀ n : Fin 256, (smallW (UInt8.ofNat n.val) || (signW (UInt8.ofNat n.val) || (greatW (UInt8.ofNat n.val) || digW (UInt8.ofNat n.val)))) = true → decide (Lib.indexByte endsB (UInt8.ofNat n.val) < 0) = true ∧ UInt8.ofNat n.val ≠ 32 := by decide +kernel
 have := this ⟨c.toNat, c.toNat_lt⟩
 simpa using this
theorem first_fact : ∀ c : UInt8, (smallW c || signW c) = true → digsB.contains c = false ∧ greatB.contains c = false ∧ decide ((0 : Int) ≤ Lib.indexByte blanksB c) = false ∧ ((c.toNat : Int) == 59) = false ∧ ((c.toNat : Int) == 40) = false ∧ ((c.toNat : Int) == 41) = false ∧ ((c.toNat : Int) == 34) = false := by
 intro c
 have : ∀ n : Fin 256, (smallW (UInt8.ofNat n.val) || signW (UInt8.ofNat n.val)) = true → digsB.contains (UInt8.ofNat n.val) = false ∧ greatB.contains (UInt8.ofNat n.val) = false ∧ decide ((0 : Int) ≤ Lib.indexByte blanksB (UInt8.ofNat n.val)) = false ∧ (((UInt8.ofNat n.val).toNat : Int) == 59) = false ∧ (((UInt8.ofNat n.val).toNat : Int) == 40) = false ∧ (((UInt8.ofNat n.val).toNat : Int) == 41) = false ∧ (((UInt8.ofNat n.val).toNat : Int) == 34) = false := by decide +kernel
 have := this ⟨c.toNat, c.toNat_lt⟩
 simpa using this
theorem wordW_all : ∀ (l : List UInt8) (i : Nat), wordW i l = true → ∀ c ∈ l, (smallW c || (signW c || (greatW c || digW c))) = true
 | [], _, _, c, hc => by cases hc
 | d :: l, i, h, c, hc => by
   simp only [wordW, Bool.and_eq_true] at h
   rcases List.mem_cons.1 hc with rfl | hc
   · exact ok_all h.1
   · exact wordW_all l (i + 1) h.2 c hc
theorem onlyM_head {c : UInt8} {r s : List UInt8} (h : s.contains c = false) : onlyM (c :: r) s = false := by
 rw [onlyM_eq, List.all_cons, h]; rfl
theorem cut_head (sep : UInt8) : ∀ (l : List UInt8), (Lib.cut l [sep]).2.2 = true → l = (Lib.cut l [sep]).1 ++ sep :: (Lib.cut l [sep]).2.1 := by
 intro l h
 unfold Lib.cut at h ⊢
 split at h
 · rename_i hi
   rw [if_pos hi]
   simp only [List.length_cons, List.length_nil]
   have key : ∀ l : List UInt8, 0 ≤ Lib.index l [sep] → l = l.take (Lib.index l [sep]).toNat ++ sep :: l.drop ((Lib.index l [sep]).toNat + 1) := by
     intro l
     induction l with
     | nil => intro h; simp [Lib.index] at h
     | cons c l ih =>
       intro h
       unfold Lib.index at h ⊢
       split at h
       · rename_i hp
         rw [if_pos hp]
         have : sep = c := by simpa [List.isPrefixOf] using hp
         subst this
         simp
       · rename_i hp
         rw [if_neg hp]
         split at h
         · rename_i hq; omega
         · rename_i hq
           rw [if_neg hq]
           have h2 := index_ge [sep] l
           have h3 : Lib.index l [sep] ≠ -1 := by simpa using hq
           have ih := ih (by omega)
           have e : (Lib.index l [sep] + 1).toNat = (Lib.index l [sep]).toNat + 1 := by omega
           rw [e]
           simp only [List.take_succ_cons, List.cons_append, List.drop_succ_cons]
           rw [← ih]
   exact key l hi
 · cases h
theorem word_name {w : List UInt8} (hne : w ≠ []) (hw : wordW 0 w = true) (hl : w.length ≤ 40) (hn : (numW w && (w.drop 1).all numC) = false) : wordM w = some (5, 0, w) := by
 cases w with
 | nil => exact absurd rfl hne
 | cons c r =>
   have h0 : (smallW c || signW c) = true := by
     simp only [wordW, Bool.and_eq_true] at hw
     exact ok_first hw.1
   have hall := wordW_all _ _ hw
   obtain ⟨hd, hg, _⟩ := first_fact c h0
   have hsm : (smallB ++ signsB).contains c = true := by
     rw [small_in, sign_in] at h0
     simpa [List.contains_eq_mem] using h0
   have hdig : digitsM (wholeM (c :: r)) = false := by
     cases hc : negM (c :: r) with
     | false => rw [wholeM_pos hc]; unfold digitsM; rw [onlyM_head hd]; simp
     | true =>
       have hc' : c = 45 := by simpa [negM] using hc
       subst hc'
       rw [wholeM_neg]
       cases hx : digitsM r with
       | false => rfl
       | true =>
         exfalso
         have hr := digitsM_digs hx
         have h1 : numW (45 :: r) = true := by
           cases r with
           | nil => simp at hr
           | cons _ _ => simp [numW, hd0]; omega
         have h2 : (List.drop 1 (45 :: r)).all numC = true := by
           simp only [List.drop_succ_cons, List.drop_zero, List.all_eq_true]
           intro x hx
           have := hr.2 x hx
           simp [numC, digW]; omega
         rw [h1, h2] at hn; cases hn
   have hread : readM (c :: r) = none := by unfold readM; rw [hdig]; rfl
   have hform : fformM (c :: r) = none := by
     unfold fformM
     simp only []
     rw [if_neg]
     intro hh
     simp only [Bool.and_eq_true] at hh
     obtain ⟨hcut, ha, hb, _⟩ := hh
     have hsp := cut_head 46 _ hcut
     have hda := digitsM_digs ha
     have hdb := digitsM_digs hb
     cases hc : negM (c :: r) with
     | false =>
       rw [wholeM_pos hc] at hsp hda
       cases hz : (Lib.cut (c :: r) [46]).1 with
       | nil => rw [hz] at hda; simp at hda
       | cons a t =>
         rw [hz] at hsp hda
         simp only [List.cons_append, List.cons.injEq] at hsp
         have := hda.2 a (.head _)
         rw [← hsp.1] at this
         have : digW c = true := by simp [digW]; omega
         rw [dig_in, hd] at this
         cases this
     | true =>
       have hc' : c = 45 := by simpa [negM] using hc
       subst hc'
       rw [wholeM_neg] at hsp hda hdb
       have h1 : numW (45 :: r) = true := by
         rw [hsp]
         simp [numW, hd0]; omega
       have h2 : (List.drop 1 (45 :: r)).all numC = true := by
         simp only [List.drop_succ_cons, List.drop_zero, List.all_eq_true]
         intro x hx
         rw [hsp] at hx
         rcases List.mem_append.1 hx with hx | hx
         · have := hda.2 x hx; simp [numC, digW]; omega
         · rcases List.mem_cons.1 hx with rfl | hx
           · rfl
           · have := hdb.2 x hx; simp [numC, digW]; omega
       rw [h1, h2] at hn; cases hn
   have hbits : fbitsM (c :: r) = none := by unfold fbitsM; rw [hform]
   have hwd : (!(wholeM (c :: r) == []) && onlyM (wholeM (c :: r)) digsB) = false := hdig
   have hlen : decide ((40 : Int) < (c :: r).length) = false := by simp only [decide_eq_false_iff_not]; omega
   have hall2 : onlyM (c :: r) (greatB ++ smallB ++ digsB ++ signsB) = true := by
     rw [onlyM_eq, List.all_eq_true]
     intro x hx
     have := hall x hx
     rw [small_in, sign_in, great_in, dig_in] at this
     simp only [Bool.or_eq_true, List.contains_eq_mem, decide_eq_true_eq, List.mem_append] at this ⊢
     rcases this with h | h | h | h
     · exact .inl (.inl (.inr h))
     · exact .inr h
     · exact .inl (.inl (.inl h))
     · exact .inl (.inr h)
   unfold wordM
   rw [hread]
   simp only []
   rw [hbits]
   simp only []
   have h1 : onlyM ((c :: r).take 1) greatB = false := onlyM_head hg
   have h2 : onlyM ((c :: r).take 1) (smallB ++ signsB) = true := by
     show onlyM [c] (smallB ++ signsB) = true
     rw [onlyM_eq, List.all_cons, hsm]; rfl
   rw [if_neg (by rw [hwd, hlen]; decide), if_neg (by rw [h1]; simp), if_pos (by rw [h2, hall2]; rfl)]
/-! Kept words. -/
theorem isPre_word : ∀ (w w1 rest : List UInt8), (∀ c ∈ w, c ≠ 32) → (∀ c ∈ w1, c ≠ 32) → (w ++ [32]).isPrefixOf (w1 ++ 32 :: rest) = (w == w1)
 | [], [], rest, _, _ => by simp [List.isPrefixOf]
 | [], d :: w1, rest, _, h1 => by
   have := h1 d (.head _)
   simp [List.isPrefixOf, this.symm]
 | c :: w, [], rest, h, _ => by
   have := h c (.head _)
   simp [List.isPrefixOf, this]
 | c :: w, d :: w1, rest, h, h1 => by
   have ih := isPre_word w w1 rest (fun x hx => h x (.tail _ hx)) (fun x hx => h1 x (.tail _ hx))
   simp only [List.cons_append, List.isPrefixOf, ih]
   rw [List.cons_beq_cons]
theorem hasSub_skip (w : List UInt8) : ∀ (w1 rest : List UInt8), (∀ c ∈ w1, c ≠ 32) → hasSub (w1 ++ 32 :: rest) (32 :: w) = hasSub (32 :: rest) (32 :: w)
 | [], rest, _ => rfl
 | c :: w1, rest, h => by
   have hc := h c (.head _)
   rw [List.cons_append]
   conv => lhs; unfold hasSub
   rw [hasSub_skip w w1 rest (fun x hx => h x (.tail _ hx))]
   simp [List.isPrefixOf, hc.symm]
theorem hasSub_word (w w1 rest : List UInt8) (h : ∀ c ∈ w, c ≠ 32) (h1 : ∀ c ∈ w1, c ≠ 32) : hasSub (32 :: (w1 ++ 32 :: rest)) (32 :: (w ++ [32])) = (w == w1 || hasSub (32 :: rest) (32 :: (w ++ [32]))) := by
 conv => lhs; unfold hasSub
 rw [hasSub_skip _ w1 rest h1]
 have : (32 :: (w ++ [32])).isPrefixOf (32 :: (w1 ++ 32 :: rest)) = (w == w1) := by
   simp only [List.isPrefixOf, beq_self_eq_true, Bool.true_and]
   exact isPre_word w w1 rest h h1
 rw [this]
def joinW : List (List UInt8) → List UInt8
 | [] => [32]
 | w :: ws => 32 :: (w ++ joinW ws)
theorem joinW_head : ∀ ws, ∃ r, joinW ws = 32 :: r
 | [] => ⟨_, rfl⟩
 | _ :: _ => ⟨_, rfl⟩
theorem hasSub_join (w : List UInt8) (h : ∀ c ∈ w, c ≠ 32) : ∀ ws : List (List UInt8), (∀ x ∈ ws, ∀ c ∈ x, c ≠ 32) → hasSub (joinW ws) (32 :: (w ++ [32])) = ws.contains w
 | [], _ => by
   have : (w ++ [32]).isPrefixOf [] = false := by cases w <;> rfl
   simp [joinW, hasSub, List.isPrefixOf, this]
 | x :: ws, hws => by
   obtain ⟨r, hr⟩ := joinW_head ws
   have ih := hasSub_join w h ws (fun y hy => hws y (.tail _ hy))
   rw [hr] at ih
   rw [joinW, hr, hasSub_word w x r h (hws x (.head _)), ih, List.contains_cons]
def keptL : List (List UInt8) := [[102, 110], [108, 101, 116], [114, 101, 99], [105, 102], [115, 101, 113], [116, 117, 112, 108, 101], [99, 97, 115, 101], [116, 114, 121], [114, 97, 105, 115, 101], [116, 114, 97, 110, 115, 97, 99, 116], [100, 97, 116, 97], [114, 111, 111, 116], [100, 101, 102], [100, 111]]
theorem keptM_eq {w : List UInt8} (h : ∀ c ∈ w, c ≠ 32) : keptM w = keptL.contains w := by
 have := hasSub_join w h keptL (by decide)
 rw [← this]
 rfl
/-! The texts. -/
theorem spanM_word (w : List UInt8) (e : UInt8) (rest : List UInt8) (he : decide (Lib.indexByte endsB e < 0) = false) : ∀ (p : Ps), (∀ c ∈ w, decide (Lib.indexByte endsB c < 0) = true) → (spanM p (w ++ e :: rest)).1 = w ∧ (spanM p (w ++ e :: rest)).2.1 = e :: rest := by
 induction w with
 | nil => intro p _; simp [spanM, he]
 | cons c w ih =>
   intro p h
   have hc := h c (.head _)
   have := ih (adv c p) (fun x hx => h x (.tail _ hx))
   simp only [List.cons_append, spanM, hc, if_true, this]
   simp
def wt (w : List UInt8) : Tok := ⟨5, 0, 0, 0, w⟩
theorem scO_word {w : List UInt8} {e : UInt8} (rest : List UInt8) (hne : w ≠ []) (hw : wordW 0 w = true) (hm : wordM w = some (5, 0, w)) (he : decide (Lib.indexByte endsB e < 0) = false) : scO (w ++ e :: rest) = (scO (e :: rest)).map (wt w :: ·) := by
 cases w with
 | nil => exact absurd rfl hne
 | cons c r =>
   have hall := wordW_all _ _ hw
   have h0 : (smallW c || signW c) = true := by
     simp only [wordW, Bool.and_eq_true] at hw
     exact ok_first hw.1
   obtain ⟨_, _, h1, h2, h3, h4, h5⟩ := first_fact c h0
   have hs : stO (c :: r ++ e :: rest) = some ([wt (c :: r)], e :: rest) := by
     unfold stO
     generalize (c :: r ++ e :: rest).length = F
     rw [List.cons_append, stepM_cons, h1, h2, h3, h4, h5]
     simp only [Bool.false_eq_true, if_false]
     have := spanM_word r e rest he (adv c (1, 1)) (fun x hx => (ok_fact x (hall x (.tail _ hx))).1)
     rw [this.1, hm]
     simp only [eStep, List.map_cons, List.map_nil, this.2]
     rfl
   rw [List.cons_append] at hs ⊢
   rw [scO_cons, hs]
   rfl
theorem scO_open (r : List UInt8) : scO (40 :: r) = (scO r).map (⟨0, 0, 0, 0, []⟩ :: ·) := by rw [scO_cons]; rfl
theorem scO_close (r : List UInt8) : scO (41 :: r) = (scO r).map (⟨1, 0, 0, 0, []⟩ :: ·) := by rw [scO_cons]; rfl
theorem scO_sp (r : List UInt8) : scO (32 :: r) = scO r := by
 rw [scO_cons]
 have : stO (32 :: r) = some ([], r) := rfl
 rw [this]; simp
def nt1 (w : List UInt8) : List UInt8 := [40, 100, 111, 32] ++ w ++ [41]
def nt2 (w : List UInt8) : List UInt8 := [40, 100, 111, 32, 40, 108, 101, 116, 32] ++ w ++ [32, 49, 32, 50, 41, 41]
def nt3 (w : List UInt8) : List UInt8 := [40, 100, 101, 102, 32] ++ w ++ [32, 49, 41]
def nt4 (w : List UInt8) : List UInt8 := [40, 114, 111, 111, 116, 32] ++ w ++ [32, 105, 110, 116, 32, 49, 41]
section
variable {w : List UInt8} (hne : w ≠ []) (hw : wordW 0 w = true) (hm : wordM w = some (5, 0, w))
include hne hw hm
theorem sc1 : scO (nt1 w) = some [⟨0, 0, 0, 0, []⟩, wt [100, 111], wt w, ⟨1, 0, 0, 0, []⟩] := by
 unfold nt1
 have h1 : scO ([100, 111] ++ 32 :: (w ++ [41])) = (scO (32 :: (w ++ [41]))).map (wt [100, 111] :: ·) := scO_word _ (by decide) (by decide) (by decide +kernel) (by decide)
 have h2 := scO_word (e := 41) [] hne hw hm (by decide)
 show scO (40 :: ([100, 111] ++ 32 :: (w ++ [41]))) = _
 rw [scO_open, h1, scO_sp, h2, scO_close, scO_nil]
 rfl
theorem sc2 : scO (nt2 w) = some [⟨0, 0, 0, 0, []⟩, wt [100, 111], ⟨0, 0, 0, 0, []⟩, wt [108, 101, 116], wt w, ⟨2, 0, 0, 1, []⟩, ⟨2, 0, 0, 2, []⟩, ⟨1, 0, 0, 0, []⟩, ⟨1, 0, 0, 0, []⟩] := by
 unfold nt2
 have h1 : scO ([100, 111] ++ 32 :: (40 :: ([108, 101, 116] ++ 32 :: (w ++ [32, 49, 32, 50, 41, 41])))) = (scO (32 :: (40 :: ([108, 101, 116] ++ 32 :: (w ++ [32, 49, 32, 50, 41, 41]))))).map (wt [100, 111] :: ·) := scO_word _ (by decide) (by decide) (by decide +kernel) (by decide)
 have h3 : scO ([108, 101, 116] ++ 32 :: (w ++ [32, 49, 32, 50, 41, 41])) = (scO (32 :: (w ++ [32, 49, 32, 50, 41, 41]))).map (wt [108, 101, 116] :: ·) := scO_word _ (by decide) (by decide) (by decide +kernel) (by decide)
 have h2 := scO_word (e := 32) [49, 32, 50, 41, 41] hne hw hm (by decide)
 have h4 : scO [32, 49, 32, 50, 41, 41] = some [⟨2, 0, 0, 1, []⟩, ⟨2, 0, 0, 2, []⟩, ⟨1, 0, 0, 0, []⟩, ⟨1, 0, 0, 0, []⟩] := by rfl
 show scO (40 :: ([100, 111] ++ 32 :: (40 :: ([108, 101, 116] ++ 32 :: (w ++ [32, 49, 32, 50, 41, 41]))))) = _
 rw [scO_open, h1, scO_sp, scO_open, h3, scO_sp, h2, h4]
 rfl
theorem sc3 : scO (nt3 w) = some [⟨0, 0, 0, 0, []⟩, wt [100, 101, 102], wt w, ⟨2, 0, 0, 1, []⟩, ⟨1, 0, 0, 0, []⟩] := by
 unfold nt3
 have h1 : scO ([100, 101, 102] ++ 32 :: (w ++ [32, 49, 41])) = (scO (32 :: (w ++ [32, 49, 41]))).map (wt [100, 101, 102] :: ·) := scO_word _ (by decide) (by decide) (by decide +kernel) (by decide)
 have h2 := scO_word (e := 32) [49, 41] hne hw hm (by decide)
 have h4 : scO [32, 49, 41] = some [⟨2, 0, 0, 1, []⟩, ⟨1, 0, 0, 0, []⟩] := by rfl
 show scO (40 :: ([100, 101, 102] ++ 32 :: (w ++ [32, 49, 41]))) = _
 rw [scO_open, h1, scO_sp, h2, h4]
 rfl
theorem sc4 : scO (nt4 w) = some [⟨0, 0, 0, 0, []⟩, wt [114, 111, 111, 116], wt w, wt [105, 110, 116], ⟨2, 0, 0, 1, []⟩, ⟨1, 0, 0, 0, []⟩] := by
 unfold nt4
 have h1 : scO ([114, 111, 111, 116] ++ 32 :: (w ++ [32, 105, 110, 116, 32, 49, 41])) = (scO (32 :: (w ++ [32, 105, 110, 116, 32, 49, 41]))).map (wt [114, 111, 111, 116] :: ·) := scO_word _ (by decide) (by decide) (by decide +kernel) (by decide)
 have h2 := scO_word (e := 32) [105, 110, 116, 32, 49, 41] hne hw hm (by decide)
 have h4 : scO [32, 105, 110, 116, 32, 49, 41] = some [wt [105, 110, 116], ⟨2, 0, 0, 1, []⟩, ⟨1, 0, 0, 0, []⟩] := by rfl
 show scO (40 :: ([114, 111, 111, 116] ++ 32 :: (w ++ [32, 105, 110, 116, 32, 49, 41]))) = _
 rw [scO_open, h1, scO_sp, h2, h4]
 rfl
end
def nameW (w : List UInt8) : Bool := !(keptL.contains w) && (!(w == [95]) && ((hd0 w).toNat : Int) != 39)
theorem name_var {w : List UInt8} (hw : wordW 0 w = true) : (wt w).isVar = nameW w := by
 have h32 : ∀ c ∈ w, c ≠ 32 := fun c hc => (ok_fact c (wordW_all _ _ hw c hc)).2
 unfold Tok.isVar nameW wt
 rw [keptM_eq h32]
 cases keptL.contains w <;> cases (w == [95]) <;> cases (((hd0 w).toNat : Int) != 39) <;> rfl
def okE {α : Type} : R α → Bool
 | .ok _ => true
 | .error _ => false
theorem pr1 (w : List UInt8) : okE (parsM 200 [⟨0, 0, 0, 0, []⟩, wt [100, 111], wt w, ⟨1, 0, 0, 0, []⟩]) = (wt w).isVar := by
 show okE (match (match need (wt w) (wt w).isVar (.ok (node (wt w) 5 w .nil)) with | .error e => .error e | .ok x => .ok (node ⟨0, 0, 0, 0, []⟩ 46 [] x.one) : R N) with
   | .error e => .error e
   | .ok a => .ok (a.cons .nil) : R Nd) = _
 unfold need
 cases (wt w).isVar <;> rfl
theorem pr2 (w : List UInt8) : okE (parsM 200 [⟨0, 0, 0, 0, []⟩, wt [100, 111], ⟨0, 0, 0, 0, []⟩, wt [108, 101, 116], wt w, ⟨2, 0, 0, 1, []⟩, ⟨2, 0, 0, 2, []⟩, ⟨1, 0, 0, 0, []⟩, ⟨1, 0, 0, 0, []⟩]) = ((wt w).isVar || w == [95]) := by
 have e : (wt w).isHole = ((wt w).isVar || w == [95]) := by unfold Tok.isHole Tok.isWord; rfl
 rw [← e]
 show okE (match (match need ⟨0, 0, 0, 0, []⟩ (wt w).isHole (.ok (node ⟨0, 0, 0, 0, []⟩ 9 w (N.cons ⟨1, 0, 0, [], 1, .nil⟩ (N.one ⟨1, 0, 0, [], 2, .nil⟩)))) with | .error e => .error e | .ok x => .ok (node ⟨0, 0, 0, 0, []⟩ 46 [] x.one) : R N) with
   | .error e => .error e
   | .ok a => .ok (a.cons .nil) : R Nd) = _
 unfold need
 cases (wt w).isHole <;> rfl
theorem pr3 (w : List UInt8) : okE (parsM 200 [⟨0, 0, 0, 0, []⟩, wt [100, 101, 102], wt w, ⟨2, 0, 0, 1, []⟩, ⟨1, 0, 0, 0, []⟩]) = (wt w).isVar := by
 show okE (match (need ⟨0, 0, 0, 0, []⟩ (wt w).isVar (.ok (node ⟨0, 0, 0, 0, []⟩ 44 w (N.one ⟨1, 0, 0, [], 1, .nil⟩))) : R N) with
   | .error e => .error e
   | .ok a => .ok (a.cons .nil) : R Nd) = _
 unfold need
 cases (wt w).isVar <;> rfl
theorem pr4 (w : List UInt8) : okE (parsM 200 [⟨0, 0, 0, 0, []⟩, wt [114, 111, 111, 116], wt w, wt [105, 110, 116], ⟨2, 0, 0, 1, []⟩, ⟨1, 0, 0, 0, []⟩]) = (wt w).isVar := by
 show okE (match (need ⟨0, 0, 0, 0, []⟩ (wt w).isVar (.ok (node ⟨0, 0, 0, 0, []⟩ 43 w (N.cons ⟨32, 0, 0, [105, 110, 116], 0, .nil⟩ (N.one ⟨1, 0, 0, [], 1, .nil⟩)))) : R N) with
   | .error e => .error e
   | .ok a => .ok (a.cons .nil) : R Nd) = _
 unfold need
 cases (wt w).isVar <;> rfl
theorem code_of {src : List UInt8} {t : List Tok} {b : Bool} (hl : src.length ≤ 65536) (hs : scO src = some t) (hp : okE (parsM 200 t) = b) : ((progM 200 (lexM src)).2.2.2 == 0) = b := by
 have h := progM_pO 200 src hl
 unfold pO at h
 rw [hs] at h
 simp only at h
 cases hx : parsM 200 t with
 | error e =>
   rw [hx] at h hp
   have := h.2 rfl
   rw [← hp]
   simpa [okE] using this
 | ok x =>
   rw [hx] at h hp
   have := (h.1 x rfl).2
   rw [← hp, this]
   rfl
theorem names_all {w : List UInt8} (hne : w ≠ []) (hw : wordW 0 w = true) (hl : w.length ≤ 40) (hn : (numW w && (w.drop 1).all numC) = false) :
   ((progM 200 (lexM (nt1 w))).2.2.2 == 0) = nameW w ∧ ((progM 200 (lexM (nt2 w))).2.2.2 == 0) = (nameW w || w == [95]) ∧ ((progM 200 (lexM (nt3 w))).2.2.2 == 0) = nameW w ∧ ((progM 200 (lexM (nt4 w))).2.2.2 == 0) = nameW w := by
 have hm := word_name hne hw hl hn
 rw [← name_var hw]
 exact ⟨code_of (by simp [nt1]; omega) (sc1 hne hw hm) (pr1 w), code_of (by simp [nt2]; omega) (sc2 hne hw hm) (pr2 w), code_of (by simp [nt3]; omega) (sc3 hne hw hm) (pr3 w), code_of (by simp [nt4]; omega) (sc4 hne hw hm) (pr4 w)⟩
end Go.SP
namespace Go.Proofs.YthjdnhnbgjgbkaaGreatDoor
open Go.SW Go.SP Go.RowKit
theorem sl36 : sle Tryz.prog 36 = some (9, 1) := by kernel_rfl
theorem zr9 : zer Tryz.prog 9 = some [.string ⟨#[]⟩] := by kernel_rfl
theorem ent8 : Ent Tryz.prog 8 := ent_of Tryz.func8 (by kernel_rfl) (by kernel_rfl)
theorem ent18 : Ent Tryz.prog 18 := ent_of Tryz.func18 (by kernel_rfl) (by kernel_rfl)
theorem ent12 : Ent Tryz.prog 12 := ent_of Tryz.func12 (by kernel_rfl) (by kernel_rfl)
end Go.Proofs.YthjdnhnbgjgbkaaGreatDoor
namespace Go.SW
theorem ewp_mid {P : Program} {n : Nat} {Q : Post} {σ : Env} {ds : List Deferred} {w : World} {c : Code} (d : Nat) (E : Bool) (σ0 : Env) (h1 : EWP P n c { q := fun e σ' ds' w' => e = .normal ∧ Le (upd σ0 d (.bool E)) σ' ∧ ds' = ds ∧ w' = w, p := Q.p } σ ds w) (h2 : Q.q .normal (upd σ0 d (.bool E)) ds w) : EWP P n c Q σ ds w :=
 fun a ha => wp_mono (h1 a ha) fun e a' w' he => by
   cases e with
   | normal => obtain ⟨σ', ds', hs, _, hl, rfl, rfl⟩ := he; exact ⟨_, _, hs.le hl, h2⟩
   | panic c => exact he
   | outgrown => exact he
   | ret => obtain ⟨_, _, _, h, _⟩ := he; cases h
   | exit i => obtain ⟨_, _, _, h, _⟩ := he; cases h
   | goto i => obtain ⟨_, _, _, h, _⟩ := he; cases h
end Go.SW
namespace Go.Proofs.YthjdnhnbgjgbkaaGreatDoor
open Go.SW Go.SP Go.RowKit
theorem bo {a b : Bool} (h : a = b) : some (Value.bool a) = some (Value.bool b) := by rw [h]
theorem numD (l : List UInt8) : decide ((1 : Int) < (l.length : Int) + 1) = decide (0 < l.length) := by simp; omega
theorem in_spec (w : World) (s : List UInt8) (l : List (List UInt8)) (b : Nat) (T : TypeId) (hb : Blk w b (l.map S) T) (hl : l.length ≤ 1000) :
   Ret Tryz.prog 18 #[S s, .slice (some ⟨b, 0, none⟩) l.length l.length] w fun v w' => v = .bool (l.contains s) ∧ Ext w w' := by
 have hX := Ext.refl w
 refine enter Tryz.func18 rfl rfl rfl ?_
 refine ewp_seq ?_
 refine ewp_reg ?_
 refine ewl_run rfl (rn_assign rfl) ?_
 refine ewl_nil ?_
 refine thn_n ?_
 refine ewp_seq ?_
 refine ewp_seq ?_
 refine ewp_reg ?_
 refine ewl_run rfl (rn_assign rfl) ?_
 refine ewl_nil ?_
 refine thn_n ?_
 refine ewp_block ?_
 refine ewp_loop (fun kk σ ds w' => ∃ i : Nat, kk = l.length - i ∧ ds = [] ∧ σ = (upd (upd (upd SW.e0 0 (S s)) 1 (.slice (some ⟨b, 0, none⟩) l.length l.length)) 5 (.int .i64 (i : Int))) ∧ i ≤ l.length ∧ (l.take i).contains s = false ∧ Ext w w') l.length (upd (upd (upd SW.e0 0 (S s)) 1 (.slice (some ⟨b, 0, none⟩) l.length l.length)) 5 (.int .i64 ((0 : Nat) : Int))) (le_upd (le_upd (le_upd (le_e0 _) rfl) rfl) rfl) ⟨0, rfl, rfl, rfl, by omega, rfl, hX⟩ ?_
 rintro _ _ _ wl ⟨i, rfl, rfl, rfl, hi, hno, hX⟩
 refine ewp_seq ?_
 refine ewp_seq ?_
 refine ewp_reg ?_
 refine ewl_run rfl (rn_move rfl) ?_
 refine ewl_run rfl (rn_move rfl) ?_
 refine ewl_run rfl (rn_len rfl sl36) ?_
 refine ewl_run rfl (rn_ltI rfl rfl) ?_
 refine ewl_nil ?_
 refine thn_n ?_
 refine ewp_if rfl (fun h1 => ?_) (fun h1 => ?_)
 refine ewp_skip ?_
 refine thn_n ?_
 refine ewp_seq ?_
 refine ewp_block ?_
 refine ewp_seq ?_
 have hil : i < l.length := by have := of_decide_eq_true h1; omega
 refine ewp_reg ?_
 refine ewl_run rfl (rn_move rfl) ?_
 refine ewl_run rfl (rn_move rfl) ?_
 refine ewl_run rfl (rn_ixc (i := i) rfl rfl sl36 hil) ?_
 refine ewl_run rfl (rn_load rfl ti9 (hb.ext hX) (str_at hil)) ?_
 refine ewl_run rfl (rn_move rfl) ?_
 refine ewl_run rfl (rn_eqS rfl rfl) ?_
 refine ewl_nil ?_
 refine thn_n ?_
 refine ewp_if rfl (fun h2 => ?_) (fun h2 => ?_)
 refine ewp_seq ?_
 refine ewp_reg ?_
 refine ewl_run rfl (rn_assign rfl) ?_
 refine ewl_nil ?_
 refine thn_n ?_
 refine ewp_ret ?_
 refine blk_r ?_
 refine thn_r ?_
 refine lp_r ?_
 refine blk_r ?_
 refine thn_r ?_
 refine fn_r (resv rfl (rv_tmp rfl)) ?_
 have hx : (l.getD i [] == s) = true := h2
 rw [List.getD_eq_getElem?_getD, List.getElem?_eq_getElem hil] at hx
 have hx2 : l[i] = s := by simpa using hx
 have hmem : l.contains s = true := by rw [← hx2]; simp
 exact ⟨by rw [hmem], hX⟩
 refine ewp_skip ?_
 refine blk_n ?_
 refine thn_n ?_
 refine ewp_reg ?_
 refine ewl_run rfl (rn_move rfl) ?_
 refine ewl_run rfl (rn_add rfl rfl ⟨by omega, by omega⟩) ?_
 refine ewl_run rfl (rn_assign rfl) ?_
 refine ewl_nil ?_
 have hno2 : (l.take (i + 1)).contains s = false := by
   rw [List.take_succ_eq_append_getElem hil]
   have hx : (l.getD i [] == s) = false := h2
   rw [List.getD_eq_getElem?_getD, List.getElem?_eq_getElem hil] at hx
   have hx2 : ¬ s = l[i] := fun e => by rw [e] at hx; simp at hx
   have hno3 : s ∉ l.take i := by simpa using hno
   simp only [List.contains_eq_mem, List.mem_append, List.mem_singleton, hno3, hx2, or_false, decide_false]
 refine lp_n (l.length - (i + 1)) (upd (upd (upd SW.e0 0 (S s)) 1 (.slice (some ⟨b, 0, none⟩) l.length l.length)) 5 (.int .i64 ((i + 1 : Nat) : Int))) (by omega) (le_upd (le_upd (le_upd (le_e0 _) rfl) rfl) rfl) ⟨i + 1, rfl, rfl, rfl, by omega, hno2, hX⟩
 refine ewp_exit ?_
 refine thn_e ?_
 refine lp_e ?_
 refine blk_e ?_
 refine thn_n ?_
 refine ewp_seq ?_
 refine ewp_reg ?_
 refine ewl_run rfl (rn_assign rfl) ?_
 refine ewl_nil ?_
 refine thn_n ?_
 refine ewp_ret ?_
 refine fn_r (resv rfl (rv_tmp rfl)) ?_
 have hge : l.length ≤ i := by have := of_decide_eq_false h1; omega
 rw [List.take_of_length_le hge] at hno
 exact ⟨by rw [hno], hX⟩
theorem keptR_spec (w : World) (s : List UInt8) :
   Ret Tryz.prog 12 #[S s] w fun v w' => v = .bool (keptL.contains s) ∧ Ext w w' := by
 have hX := Ext.refl w
 refine enter Tryz.func12 rfl rfl rfl ?_
 refine ewp_seq ?_
 refine ewp_reg ?_
 refine ewl_run rfl (rn_assign rfl) ?_
 refine ewl_nil ?_
 refine thn_n ?_
 refine ewp_seq ?_
 refine ewp_reg ?_
 refine ewl_run rfl (rn_move rfl) ?_
 refine ewl_bs rfl rfl sl36 zr9 rfl rfl rfl rfl rfl fun b1 w1 hb1 hE1 hs1 hz1 => ?_
 replace hX := hX.trans hE1
 refine ewl_ret rfl (en_call ent18 rfl rfl) (in_spec _ _ keptL b1 _ hb1 (by decide)) ?_
 rintro _ w2 ⟨rfl, hE2⟩
 replace hb1 := hb1.ext hE2
 replace hX := hX.trans hE2
 have sz1 := hE2.size
 refine ewl_run rfl (rn_assign rfl) ?_
 refine ewl_nil ?_
 refine thn_n ?_
 refine ewp_ret ?_
 refine fn_r (resv rfl (rv_tmp rfl)) ?_
 exact ⟨rfl, hX⟩
theorem names_spec (w : World) (hG : Gl w) (s : List UInt8) :
   Ret Tryz.prog 5 #[S s] w fun v w' => v = .bool true ∧ Ext w w' := by
 have hX := Ext.refl w
 refine enter Tryz.func5 rfl rfl rfl ?_
 refine ewp_seq ?_
 refine ewp_reg ?_
 refine ewl_run rfl (rn_assign rfl) ?_
 refine ewl_nil ?_
 refine thn_n ?_
 refine ewp_seq ?_
 refine ewp_seq ?_
 refine ewp_reg ?_
 refine ewl_run rfl (rn_move rfl) ?_
 refine ewl_run rfl (rn_lenS rfl un9) ?_
 refine ewl_run rfl (rn_gtI rfl rfl) ?_
 refine ewl_nil ?_
 refine thn_n ?_
 refine ewp_if rfl (fun h1 => ?_) (fun h1 => ?_)
 refine ewp_seq ?_
 refine ewp_reg ?_
 refine ewl_ret rfl (en_call ent8 rfl rfl) (parses_spec _ (hG.ext hX)) ?_
 rintro _ w1 ⟨rfl, hE1⟩
 replace hX := hX.trans hE1
 have sz1 := hE1.size
 refine ewl_run rfl (rn_assign rfl) ?_
 refine ewl_nil ?_
 refine thn_n ?_
 refine ewp_ret ?_
 refine thn_r ?_
 refine fn_r (resv rfl (rv_tmp rfl)) ?_
 exact ⟨rfl, hX⟩
 refine ewp_skip ?_
 refine thn_n ?_
 refine ewp_seq ?_
 refine ewp_reg ?_
 refine ewl_run rfl (rn_move rfl) ?_
 refine ewl_run rfl (rn_addS rfl rfl (by have := of_decide_eq_false h1; simp only [List.length_cons, List.length_nil, List.length_append]; omega)) ?_
 refine ewl_run rfl (rn_addS rfl rfl (by have := of_decide_eq_false h1; simp only [List.length_cons, List.length_nil, List.length_append]; omega)) ?_
 refine ewl_ret rfl (en_call ent9 rfl rfl) (program _ (hG.ext hX) (nt1 s)) ?_
 rintro _ w2 ⟨ra1, rc1, rfl, hN1, hE2⟩
 replace hX := hX.trans hE2
 have sz2 := hE2.size
 refine ewl_run rfl (rn_move rfl) ?_
 refine ewl_run rfl (rn_exs rfl rfl) ?_
 refine ewl_run rfl (rn_exs rfl rfl) ?_
 refine ewl_run rfl (rn_exs rfl rfl) ?_
 refine ewl_alloc rfl zr25 fun b1 w3 hb1 hE3 hs1 hz1 => ?_
 replace hX := hX.trans hE3
 refine ewl_run rfl (rn_assign rfl) ?_
 refine ewl_store rfl rfl rfl ti25 rfl hb1 rfl rfl fun w4 hb2 hC1 => ?_
 replace hX := hX.chg hC1 (by omega)
 have sz3 := hC1.size
 refine ewl_run rfl (rn_assign rfl) ?_
 refine ewl_nil ?_
 refine thn_n ?_
 refine ewp_seq ?_
 refine ewp_reg ?_
 refine ewl_run rfl (rn_move rfl) ?_
 refine ewl_run rfl (rn_addS rfl rfl (by have := of_decide_eq_false h1; simp only [List.length_cons, List.length_nil, List.length_append]; omega)) ?_
 refine ewl_run rfl (rn_addS rfl rfl (by have := of_decide_eq_false h1; simp only [List.length_cons, List.length_nil, List.length_append]; omega)) ?_
 refine ewl_ret rfl (en_call ent9 rfl rfl) (program _ (hG.ext hX) (nt2 s)) ?_
 rintro _ w5 ⟨ra2, rc2, rfl, hN2, hE4⟩
 replace hb2 := hb2.ext hE4
 replace hX := hX.trans hE4
 have sz4 := hE4.size
 refine ewl_run rfl (rn_move rfl) ?_
 refine ewl_run rfl (rn_exs rfl rfl) ?_
 refine ewl_run rfl (rn_exs rfl rfl) ?_
 refine ewl_run rfl (rn_exs rfl rfl) ?_
 refine ewl_alloc rfl zr25 fun b2 w6 hb3 hE5 hs2 hz2 => ?_
 replace hb2 := hb2.ext hE5
 replace hX := hX.trans hE5
 refine ewl_run rfl (rn_assign rfl) ?_
 refine ewl_store rfl rfl rfl ti25 rfl hb3 rfl rfl fun w7 hb4 hC2 => ?_
 replace hb2 := hb2.chg hC2 (by omega)
 replace hX := hX.chg hC2 (by omega)
 have sz5 := hC2.size
 refine ewl_run rfl (rn_assign rfl) ?_
 refine ewl_nil ?_
 refine thn_n ?_
 refine ewp_seq ?_
 refine ewp_reg ?_
 refine ewl_run rfl (rn_move rfl) ?_
 refine ewl_run rfl (rn_addS rfl rfl (by have := of_decide_eq_false h1; simp only [List.length_cons, List.length_nil, List.length_append]; omega)) ?_
 refine ewl_run rfl (rn_addS rfl rfl (by have := of_decide_eq_false h1; simp only [List.length_cons, List.length_nil, List.length_append]; omega)) ?_
 refine ewl_ret rfl (en_call ent9 rfl rfl) (program _ (hG.ext hX) (nt3 s)) ?_
 rintro _ w8 ⟨ra3, rc3, rfl, hN3, hE6⟩
 replace hb2 := hb2.ext hE6
 replace hb4 := hb4.ext hE6
 replace hX := hX.trans hE6
 have sz6 := hE6.size
 refine ewl_run rfl (rn_move rfl) ?_
 refine ewl_run rfl (rn_exs rfl rfl) ?_
 refine ewl_run rfl (rn_exs rfl rfl) ?_
 refine ewl_run rfl (rn_exs rfl rfl) ?_
 refine ewl_alloc rfl zr25 fun b3 w9 hb5 hE7 hs3 hz3 => ?_
 replace hb2 := hb2.ext hE7
 replace hb4 := hb4.ext hE7
 replace hX := hX.trans hE7
 refine ewl_run rfl (rn_assign rfl) ?_
 refine ewl_store rfl rfl rfl ti25 rfl hb5 rfl rfl fun w10 hb6 hC3 => ?_
 replace hb2 := hb2.chg hC3 (by omega)
 replace hb4 := hb4.chg hC3 (by omega)
 replace hX := hX.chg hC3 (by omega)
 have sz7 := hC3.size
 refine ewl_run rfl (rn_assign rfl) ?_
 refine ewl_nil ?_
 refine thn_n ?_
 refine ewp_seq ?_
 refine ewp_reg ?_
 refine ewl_run rfl (rn_move rfl) ?_
 refine ewl_run rfl (rn_addS rfl rfl (by have := of_decide_eq_false h1; simp only [List.length_cons, List.length_nil, List.length_append]; omega)) ?_
 refine ewl_run rfl (rn_addS rfl rfl (by have := of_decide_eq_false h1; simp only [List.length_cons, List.length_nil, List.length_append]; omega)) ?_
 refine ewl_ret rfl (en_call ent9 rfl rfl) (program _ (hG.ext hX) (nt4 s)) ?_
 rintro _ w11 ⟨ra4, rc4, rfl, hN4, hE8⟩
 replace hb2 := hb2.ext hE8
 replace hb4 := hb4.ext hE8
 replace hb6 := hb6.ext hE8
 replace hX := hX.trans hE8
 have sz8 := hE8.size
 refine ewl_run rfl (rn_move rfl) ?_
 refine ewl_run rfl (rn_exs rfl rfl) ?_
 refine ewl_run rfl (rn_exs rfl rfl) ?_
 refine ewl_run rfl (rn_exs rfl rfl) ?_
 refine ewl_alloc rfl zr25 fun b4 w12 hb7 hE9 hs4 hz4 => ?_
 replace hb2 := hb2.ext hE9
 replace hb4 := hb4.ext hE9
 replace hb6 := hb6.ext hE9
 replace hX := hX.trans hE9
 refine ewl_run rfl (rn_assign rfl) ?_
 refine ewl_store rfl rfl rfl ti25 rfl hb7 rfl rfl fun w13 hb8 hC4 => ?_
 replace hb2 := hb2.chg hC4 (by omega)
 replace hb4 := hb4.chg hC4 (by omega)
 replace hb6 := hb6.chg hC4 (by omega)
 replace hX := hX.chg hC4 (by omega)
 have sz9 := hC4.size
 refine ewl_run rfl (rn_assign rfl) ?_
 refine ewl_nil ?_
 refine thn_n ?_
 refine ewp_seq ?_
 refine ewp_reg ?_
 refine ewl_run rfl (rn_move rfl) ?_
 refine ewl_run rfl (rn_neS rfl rfl) ?_
 refine ewl_run rfl (rn_assign rfl) ?_
 refine ewl_nil ?_
 refine thn_n ?_
 refine ewp_seq ?_
 refine ewp_seq ?_
 refine ewp_reg ?_
 refine ewl_run rfl (rn_assign rfl) ?_
 refine ewl_nil ?_
 refine thn_n ?_
 refine ewp_block ?_
 refine ewp_loop (fun kk σ ds w' => ∃ i : Nat, kk = s.length - i ∧ ds = [] ∧ σ = (upd (upd (upd (upd (upd (upd (upd SW.e0 0 (S s)) 5 (.int .i64 (progS (nt1 s)).2.2.2)) 8 (.int .i64 (progS (nt2 s)).2.2.2)) 11 (.int .i64 (progS (nt3 s)).2.2.2)) 14 (.int .i64 (progS (nt4 s)).2.2.2)) 15 (.bool (!(s == []) && wordW 0 (s.take i)))) 16 (.int .i64 (i : Int))) ∧ i ≤ s.length ∧ Ext w w') s.length (upd (upd (upd (upd (upd (upd (upd SW.e0 0 (S s)) 5 (.int .i64 (progS (nt1 s)).2.2.2)) 8 (.int .i64 (progS (nt2 s)).2.2.2)) 11 (.int .i64 (progS (nt3 s)).2.2.2)) 14 (.int .i64 (progS (nt4 s)).2.2.2)) 15 (.bool (!(s == []) && wordW 0 (s.take 0)))) 16 (.int .i64 ((0 : Nat) : Int))) (le_upd (le_upd (le_upd (le_upd (le_upd (le_upd (le_upd (le_e0 _) rfl) rfl) rfl) rfl) rfl) (bo (by simp [wordW]))) rfl) ⟨0, rfl, rfl, rfl, by omega, hX⟩ ?_
 rintro _ _ _ wl ⟨i, rfl, rfl, rfl, hi, hX⟩
 have hl6 : s.length ≤ 60 := by have := of_decide_eq_false h1; omega
 refine ewp_seq ?_
 refine ewp_seq ?_
 refine ewp_reg ?_
 refine ewl_run rfl (rn_move rfl) ?_
 refine ewl_run rfl (rn_move rfl) ?_
 refine ewl_run rfl (rn_lenS rfl un9) ?_
 refine ewl_run rfl (rn_ltI rfl rfl) ?_
 refine ewl_nil ?_
 refine thn_n ?_
 refine ewp_if rfl (fun h2 => ?_) (fun h2 => ?_)
 refine ewp_skip ?_
 refine thn_n ?_
 refine ewp_seq ?_
 refine ewp_block ?_
 refine ewp_seq ?_
 have hil : i < s.length := by have := of_decide_eq_true h2; omega
 obtain ⟨c, hc⟩ := at_lt hil
 refine ewp_reg ?_
 refine ewl_run rfl (rn_move rfl) ?_
 refine ewl_run rfl (rn_move rfl) ?_
 refine ewl_run rfl (rn_ixS rfl rfl un9 (by omega) (by simpa using hc)) ?_
 refine ewl_run rfl (rn_assign rfl) ?_
 refine ewl_nil ?_
 refine thn_n ?_
 refine ewp_seqm 18 (signW c) (upd (upd (upd (upd (upd (upd (upd (upd SW.e0 0 (S s)) 5 (.int .i64 (progS (nt1 s)).2.2.2)) 8 (.int .i64 (progS (nt2 s)).2.2.2)) 11 (.int .i64 (progS (nt3 s)).2.2.2)) 14 (.int .i64 (progS (nt4 s)).2.2.2)) 15 (.bool (!(s == []) && wordW 0 (s.take i)))) 16 (.int .i64 (i : Int))) 17 (.int .u8 (c.toNat : Int))) ?_ ?_
 refine ewp_reg ?_
 refine ewl_run rfl (rn_move rfl) ?_
 refine ewl_run rfl (rn_eqI rfl rfl) ?_
 refine ewl_run rfl (rn_move rfl) ?_
 refine ewl_split 71 rfl (fun h3 => ?_) (fun h3 => ?_)
 refine ewl_off rfl rfl rfl h3 ?_
 refine ewl_off rfl rfl rfl h3 ?_
 refine ewl_run rfl (rn_pickt rfl h3 rfl) ?_
 refine ewl_run rfl (rn_move rfl) ?_
 refine ewl_off rfl rfl rfl rfl ?_
 refine ewl_off rfl rfl rfl rfl ?_
 refine ewl_run rfl (rn_pickt rfl rfl rfl) ?_
 refine ewl_run rfl (rn_move rfl) ?_
 refine ewl_off rfl rfl rfl rfl ?_
 refine ewl_off rfl rfl rfl rfl ?_
 refine ewl_run rfl (rn_pickt rfl rfl rfl) ?_
 refine ewl_run rfl (rn_move rfl) ?_
 refine ewl_off rfl rfl rfl rfl ?_
 refine ewl_off rfl rfl rfl rfl ?_
 refine ewl_run rfl (rn_pickt rfl rfl rfl) ?_
 refine ewl_run rfl (rn_move rfl) ?_
 refine ewl_off rfl rfl rfl rfl ?_
 refine ewl_off rfl rfl rfl rfl ?_
 refine ewl_run rfl (rn_pickt rfl rfl rfl) ?_
 refine ewl_run rfl (rn_move rfl) ?_
 refine ewl_off rfl rfl rfl rfl ?_
 refine ewl_off rfl rfl rfl rfl ?_
 refine ewl_run rfl (rn_pickt rfl rfl rfl) ?_
 refine ewl_run rfl (rn_move rfl) ?_
 refine ewl_off rfl rfl rfl rfl ?_
 refine ewl_off rfl rfl rfl rfl ?_
 refine ewl_run rfl (rn_pickt rfl rfl rfl) ?_
 refine ewl_run rfl (rn_move rfl) ?_
 refine ewl_off rfl rfl rfl rfl ?_
 refine ewl_off rfl rfl rfl rfl ?_
 refine ewl_run rfl (rn_pickt rfl rfl rfl) ?_
 refine ewl_run rfl (rn_move rfl) ?_
 refine ewl_off rfl rfl rfl rfl ?_
 refine ewl_off rfl rfl rfl rfl ?_
 refine ewl_run rfl (rn_pickt rfl rfl rfl) ?_
 refine ewl_run rfl (rn_move rfl) ?_
 refine ewl_off rfl rfl rfl rfl ?_
 refine ewl_off rfl rfl rfl rfl ?_
 refine ewl_run rfl (rn_pickt rfl rfl rfl) ?_
 refine ewl_run rfl (rn_move rfl) ?_
 refine ewl_off rfl rfl rfl rfl ?_
 refine ewl_off rfl rfl rfl rfl ?_
 refine ewl_run rfl (rn_pickt rfl rfl rfl) ?_
 refine ewl_run rfl (rn_assign rfl) ?_
 refine ewl_nil ?_
 exact ⟨rfl, le_upd (le_upd (le_upd (le_upd (le_upd (le_upd (le_upd (le_upd (le_upd (le_e0 _) rfl) rfl) rfl) rfl) rfl) rfl) rfl) rfl) (bo (by simp only [signW, Bool.and_true, Bool.true_and, Bool.and_false, Bool.false_and, Bool.or_true, Bool.true_or, Bool.or_false, Bool.false_or, h3])), rfl, rfl⟩
 refine ewl_grd rfl rfl h3 ?_
 refine ewl_run rfl (rn_move rfl) ?_
 refine ewl_grd rfl rfl h3 ?_
 refine ewl_run rfl (rn_eqI rfl rfl) ?_
 refine ewl_run rfl (rn_pickf rfl h3 rfl) ?_
 refine ewl_run rfl (rn_move rfl) ?_
 refine ewl_split 75 rfl (fun h4 => ?_) (fun h4 => ?_)
 refine ewl_off rfl rfl rfl h4 ?_
 refine ewl_off rfl rfl rfl h4 ?_
 refine ewl_run rfl (rn_pickt rfl h4 rfl) ?_
 refine ewl_run rfl (rn_move rfl) ?_
 refine ewl_off rfl rfl rfl rfl ?_
 refine ewl_off rfl rfl rfl rfl ?_
 refine ewl_run rfl (rn_pickt rfl rfl rfl) ?_
 refine ewl_run rfl (rn_move rfl) ?_
 refine ewl_off rfl rfl rfl rfl ?_
 refine ewl_off rfl rfl rfl rfl ?_
 refine ewl_run rfl (rn_pickt rfl rfl rfl) ?_
 refine ewl_run rfl (rn_move rfl) ?_
 refine ewl_off rfl rfl rfl rfl ?_
 refine ewl_off rfl rfl rfl rfl ?_
 refine ewl_run rfl (rn_pickt rfl rfl rfl) ?_
 refine ewl_run rfl (rn_move rfl) ?_
 refine ewl_off rfl rfl rfl rfl ?_
 refine ewl_off rfl rfl rfl rfl ?_
 refine ewl_run rfl (rn_pickt rfl rfl rfl) ?_
 refine ewl_run rfl (rn_move rfl) ?_
 refine ewl_off rfl rfl rfl rfl ?_
 refine ewl_off rfl rfl rfl rfl ?_
 refine ewl_run rfl (rn_pickt rfl rfl rfl) ?_
 refine ewl_run rfl (rn_move rfl) ?_
 refine ewl_off rfl rfl rfl rfl ?_
 refine ewl_off rfl rfl rfl rfl ?_
 refine ewl_run rfl (rn_pickt rfl rfl rfl) ?_
 refine ewl_run rfl (rn_move rfl) ?_
 refine ewl_off rfl rfl rfl rfl ?_
 refine ewl_off rfl rfl rfl rfl ?_
 refine ewl_run rfl (rn_pickt rfl rfl rfl) ?_
 refine ewl_run rfl (rn_move rfl) ?_
 refine ewl_off rfl rfl rfl rfl ?_
 refine ewl_off rfl rfl rfl rfl ?_
 refine ewl_run rfl (rn_pickt rfl rfl rfl) ?_
 refine ewl_run rfl (rn_move rfl) ?_
 refine ewl_off rfl rfl rfl rfl ?_
 refine ewl_off rfl rfl rfl rfl ?_
 refine ewl_run rfl (rn_pickt rfl rfl rfl) ?_
 refine ewl_run rfl (rn_assign rfl) ?_
 refine ewl_nil ?_
 exact ⟨rfl, le_upd (le_upd (le_upd (le_upd (le_upd (le_upd (le_upd (le_upd (le_upd (le_e0 _) rfl) rfl) rfl) rfl) rfl) rfl) rfl) rfl) (bo (by simp only [signW, Bool.and_true, Bool.true_and, Bool.and_false, Bool.false_and, Bool.or_true, Bool.true_or, Bool.or_false, Bool.false_or, h3, h4])), rfl, rfl⟩
 refine ewl_grd rfl rfl h4 ?_
 refine ewl_run rfl (rn_move rfl) ?_
 refine ewl_grd rfl rfl h4 ?_
 refine ewl_run rfl (rn_eqI rfl rfl) ?_
 refine ewl_run rfl (rn_pickf rfl h4 rfl) ?_
 refine ewl_run rfl (rn_move rfl) ?_
 refine ewl_split 79 rfl (fun h5 => ?_) (fun h5 => ?_)
 refine ewl_off rfl rfl rfl h5 ?_
 refine ewl_off rfl rfl rfl h5 ?_
 refine ewl_run rfl (rn_pickt rfl h5 rfl) ?_
 refine ewl_run rfl (rn_move rfl) ?_
 refine ewl_off rfl rfl rfl rfl ?_
 refine ewl_off rfl rfl rfl rfl ?_
 refine ewl_run rfl (rn_pickt rfl rfl rfl) ?_
 refine ewl_run rfl (rn_move rfl) ?_
 refine ewl_off rfl rfl rfl rfl ?_
 refine ewl_off rfl rfl rfl rfl ?_
 refine ewl_run rfl (rn_pickt rfl rfl rfl) ?_
 refine ewl_run rfl (rn_move rfl) ?_
 refine ewl_off rfl rfl rfl rfl ?_
 refine ewl_off rfl rfl rfl rfl ?_
 refine ewl_run rfl (rn_pickt rfl rfl rfl) ?_
 refine ewl_run rfl (rn_move rfl) ?_
 refine ewl_off rfl rfl rfl rfl ?_
 refine ewl_off rfl rfl rfl rfl ?_
 refine ewl_run rfl (rn_pickt rfl rfl rfl) ?_
 refine ewl_run rfl (rn_move rfl) ?_
 refine ewl_off rfl rfl rfl rfl ?_
 refine ewl_off rfl rfl rfl rfl ?_
 refine ewl_run rfl (rn_pickt rfl rfl rfl) ?_
 refine ewl_run rfl (rn_move rfl) ?_
 refine ewl_off rfl rfl rfl rfl ?_
 refine ewl_off rfl rfl rfl rfl ?_
 refine ewl_run rfl (rn_pickt rfl rfl rfl) ?_
 refine ewl_run rfl (rn_move rfl) ?_
 refine ewl_off rfl rfl rfl rfl ?_
 refine ewl_off rfl rfl rfl rfl ?_
 refine ewl_run rfl (rn_pickt rfl rfl rfl) ?_
 refine ewl_run rfl (rn_move rfl) ?_
 refine ewl_off rfl rfl rfl rfl ?_
 refine ewl_off rfl rfl rfl rfl ?_
 refine ewl_run rfl (rn_pickt rfl rfl rfl) ?_
 refine ewl_run rfl (rn_assign rfl) ?_
 refine ewl_nil ?_
 exact ⟨rfl, le_upd (le_upd (le_upd (le_upd (le_upd (le_upd (le_upd (le_upd (le_upd (le_e0 _) rfl) rfl) rfl) rfl) rfl) rfl) rfl) rfl) (bo (by simp only [signW, Bool.and_true, Bool.true_and, Bool.and_false, Bool.false_and, Bool.or_true, Bool.true_or, Bool.or_false, Bool.false_or, h3, h4, h5])), rfl, rfl⟩
 refine ewl_grd rfl rfl h5 ?_
 refine ewl_run rfl (rn_move rfl) ?_
 refine ewl_grd rfl rfl h5 ?_
 refine ewl_run rfl (rn_eqI rfl rfl) ?_
 refine ewl_run rfl (rn_pickf rfl h5 rfl) ?_
 refine ewl_run rfl (rn_move rfl) ?_
 refine ewl_split 83 rfl (fun h6 => ?_) (fun h6 => ?_)
 refine ewl_off rfl rfl rfl h6 ?_
 refine ewl_off rfl rfl rfl h6 ?_
 refine ewl_run rfl (rn_pickt rfl h6 rfl) ?_
 refine ewl_run rfl (rn_move rfl) ?_
 refine ewl_off rfl rfl rfl rfl ?_
 refine ewl_off rfl rfl rfl rfl ?_
 refine ewl_run rfl (rn_pickt rfl rfl rfl) ?_
 refine ewl_run rfl (rn_move rfl) ?_
 refine ewl_off rfl rfl rfl rfl ?_
 refine ewl_off rfl rfl rfl rfl ?_
 refine ewl_run rfl (rn_pickt rfl rfl rfl) ?_
 refine ewl_run rfl (rn_move rfl) ?_
 refine ewl_off rfl rfl rfl rfl ?_
 refine ewl_off rfl rfl rfl rfl ?_
 refine ewl_run rfl (rn_pickt rfl rfl rfl) ?_
 refine ewl_run rfl (rn_move rfl) ?_
 refine ewl_off rfl rfl rfl rfl ?_
 refine ewl_off rfl rfl rfl rfl ?_
 refine ewl_run rfl (rn_pickt rfl rfl rfl) ?_
 refine ewl_run rfl (rn_move rfl) ?_
 refine ewl_off rfl rfl rfl rfl ?_
 refine ewl_off rfl rfl rfl rfl ?_
 refine ewl_run rfl (rn_pickt rfl rfl rfl) ?_
 refine ewl_run rfl (rn_move rfl) ?_
 refine ewl_off rfl rfl rfl rfl ?_
 refine ewl_off rfl rfl rfl rfl ?_
 refine ewl_run rfl (rn_pickt rfl rfl rfl) ?_
 refine ewl_run rfl (rn_move rfl) ?_
 refine ewl_off rfl rfl rfl rfl ?_
 refine ewl_off rfl rfl rfl rfl ?_
 refine ewl_run rfl (rn_pickt rfl rfl rfl) ?_
 refine ewl_run rfl (rn_assign rfl) ?_
 refine ewl_nil ?_
 exact ⟨rfl, le_upd (le_upd (le_upd (le_upd (le_upd (le_upd (le_upd (le_upd (le_upd (le_e0 _) rfl) rfl) rfl) rfl) rfl) rfl) rfl) rfl) (bo (by simp only [signW, Bool.and_true, Bool.true_and, Bool.and_false, Bool.false_and, Bool.or_true, Bool.true_or, Bool.or_false, Bool.false_or, h3, h4, h5, h6])), rfl, rfl⟩
 refine ewl_grd rfl rfl h6 ?_
 refine ewl_run rfl (rn_move rfl) ?_
 refine ewl_grd rfl rfl h6 ?_
 refine ewl_run rfl (rn_eqI rfl rfl) ?_
 refine ewl_run rfl (rn_pickf rfl h6 rfl) ?_
 refine ewl_run rfl (rn_move rfl) ?_
 refine ewl_split 87 rfl (fun h7 => ?_) (fun h7 => ?_)
 refine ewl_off rfl rfl rfl h7 ?_
 refine ewl_off rfl rfl rfl h7 ?_
 refine ewl_run rfl (rn_pickt rfl h7 rfl) ?_
 refine ewl_run rfl (rn_move rfl) ?_
 refine ewl_off rfl rfl rfl rfl ?_
 refine ewl_off rfl rfl rfl rfl ?_
 refine ewl_run rfl (rn_pickt rfl rfl rfl) ?_
 refine ewl_run rfl (rn_move rfl) ?_
 refine ewl_off rfl rfl rfl rfl ?_
 refine ewl_off rfl rfl rfl rfl ?_
 refine ewl_run rfl (rn_pickt rfl rfl rfl) ?_
 refine ewl_run rfl (rn_move rfl) ?_
 refine ewl_off rfl rfl rfl rfl ?_
 refine ewl_off rfl rfl rfl rfl ?_
 refine ewl_run rfl (rn_pickt rfl rfl rfl) ?_
 refine ewl_run rfl (rn_move rfl) ?_
 refine ewl_off rfl rfl rfl rfl ?_
 refine ewl_off rfl rfl rfl rfl ?_
 refine ewl_run rfl (rn_pickt rfl rfl rfl) ?_
 refine ewl_run rfl (rn_move rfl) ?_
 refine ewl_off rfl rfl rfl rfl ?_
 refine ewl_off rfl rfl rfl rfl ?_
 refine ewl_run rfl (rn_pickt rfl rfl rfl) ?_
 refine ewl_run rfl (rn_move rfl) ?_
 refine ewl_off rfl rfl rfl rfl ?_
 refine ewl_off rfl rfl rfl rfl ?_
 refine ewl_run rfl (rn_pickt rfl rfl rfl) ?_
 refine ewl_run rfl (rn_assign rfl) ?_
 refine ewl_nil ?_
 exact ⟨rfl, le_upd (le_upd (le_upd (le_upd (le_upd (le_upd (le_upd (le_upd (le_upd (le_e0 _) rfl) rfl) rfl) rfl) rfl) rfl) rfl) rfl) (bo (by simp only [signW, Bool.and_true, Bool.true_and, Bool.and_false, Bool.false_and, Bool.or_true, Bool.true_or, Bool.or_false, Bool.false_or, h3, h4, h5, h6, h7])), rfl, rfl⟩
 refine ewl_grd rfl rfl h7 ?_
 refine ewl_run rfl (rn_move rfl) ?_
 refine ewl_grd rfl rfl h7 ?_
 refine ewl_run rfl (rn_eqI rfl rfl) ?_
 refine ewl_run rfl (rn_pickf rfl h7 rfl) ?_
 refine ewl_run rfl (rn_move rfl) ?_
 refine ewl_split 91 rfl (fun h8 => ?_) (fun h8 => ?_)
 refine ewl_off rfl rfl rfl h8 ?_
 refine ewl_off rfl rfl rfl h8 ?_
 refine ewl_run rfl (rn_pickt rfl h8 rfl) ?_
 refine ewl_run rfl (rn_move rfl) ?_
 refine ewl_off rfl rfl rfl rfl ?_
 refine ewl_off rfl rfl rfl rfl ?_
 refine ewl_run rfl (rn_pickt rfl rfl rfl) ?_
 refine ewl_run rfl (rn_move rfl) ?_
 refine ewl_off rfl rfl rfl rfl ?_
 refine ewl_off rfl rfl rfl rfl ?_
 refine ewl_run rfl (rn_pickt rfl rfl rfl) ?_
 refine ewl_run rfl (rn_move rfl) ?_
 refine ewl_off rfl rfl rfl rfl ?_
 refine ewl_off rfl rfl rfl rfl ?_
 refine ewl_run rfl (rn_pickt rfl rfl rfl) ?_
 refine ewl_run rfl (rn_move rfl) ?_
 refine ewl_off rfl rfl rfl rfl ?_
 refine ewl_off rfl rfl rfl rfl ?_
 refine ewl_run rfl (rn_pickt rfl rfl rfl) ?_
 refine ewl_run rfl (rn_move rfl) ?_
 refine ewl_off rfl rfl rfl rfl ?_
 refine ewl_off rfl rfl rfl rfl ?_
 refine ewl_run rfl (rn_pickt rfl rfl rfl) ?_
 refine ewl_run rfl (rn_assign rfl) ?_
 refine ewl_nil ?_
 exact ⟨rfl, le_upd (le_upd (le_upd (le_upd (le_upd (le_upd (le_upd (le_upd (le_upd (le_e0 _) rfl) rfl) rfl) rfl) rfl) rfl) rfl) rfl) (bo (by simp only [signW, Bool.and_true, Bool.true_and, Bool.and_false, Bool.false_and, Bool.or_true, Bool.true_or, Bool.or_false, Bool.false_or, h3, h4, h5, h6, h7, h8])), rfl, rfl⟩
 refine ewl_grd rfl rfl h8 ?_
 refine ewl_run rfl (rn_move rfl) ?_
 refine ewl_grd rfl rfl h8 ?_
 refine ewl_run rfl (rn_eqI rfl rfl) ?_
 refine ewl_run rfl (rn_pickf rfl h8 rfl) ?_
 refine ewl_run rfl (rn_move rfl) ?_
 refine ewl_split 95 rfl (fun h9 => ?_) (fun h9 => ?_)
 refine ewl_off rfl rfl rfl h9 ?_
 refine ewl_off rfl rfl rfl h9 ?_
 refine ewl_run rfl (rn_pickt rfl h9 rfl) ?_
 refine ewl_run rfl (rn_move rfl) ?_
 refine ewl_off rfl rfl rfl rfl ?_
 refine ewl_off rfl rfl rfl rfl ?_
 refine ewl_run rfl (rn_pickt rfl rfl rfl) ?_
 refine ewl_run rfl (rn_move rfl) ?_
 refine ewl_off rfl rfl rfl rfl ?_
 refine ewl_off rfl rfl rfl rfl ?_
 refine ewl_run rfl (rn_pickt rfl rfl rfl) ?_
 refine ewl_run rfl (rn_move rfl) ?_
 refine ewl_off rfl rfl rfl rfl ?_
 refine ewl_off rfl rfl rfl rfl ?_
 refine ewl_run rfl (rn_pickt rfl rfl rfl) ?_
 refine ewl_run rfl (rn_move rfl) ?_
 refine ewl_off rfl rfl rfl rfl ?_
 refine ewl_off rfl rfl rfl rfl ?_
 refine ewl_run rfl (rn_pickt rfl rfl rfl) ?_
 refine ewl_run rfl (rn_assign rfl) ?_
 refine ewl_nil ?_
 exact ⟨rfl, le_upd (le_upd (le_upd (le_upd (le_upd (le_upd (le_upd (le_upd (le_upd (le_e0 _) rfl) rfl) rfl) rfl) rfl) rfl) rfl) rfl) (bo (by simp only [signW, Bool.and_true, Bool.true_and, Bool.and_false, Bool.false_and, Bool.or_true, Bool.true_or, Bool.or_false, Bool.false_or, h3, h4, h5, h6, h7, h8, h9])), rfl, rfl⟩
 refine ewl_grd rfl rfl h9 ?_
 refine ewl_run rfl (rn_move rfl) ?_
 refine ewl_grd rfl rfl h9 ?_
 refine ewl_run rfl (rn_eqI rfl rfl) ?_
 refine ewl_run rfl (rn_pickf rfl h9 rfl) ?_
 refine ewl_run rfl (rn_move rfl) ?_
 refine ewl_split 99 rfl (fun h10 => ?_) (fun h10 => ?_)
 refine ewl_off rfl rfl rfl h10 ?_
 refine ewl_off rfl rfl rfl h10 ?_
 refine ewl_run rfl (rn_pickt rfl h10 rfl) ?_
 refine ewl_run rfl (rn_move rfl) ?_
 refine ewl_off rfl rfl rfl rfl ?_
 refine ewl_off rfl rfl rfl rfl ?_
 refine ewl_run rfl (rn_pickt rfl rfl rfl) ?_
 refine ewl_run rfl (rn_move rfl) ?_
 refine ewl_off rfl rfl rfl rfl ?_
 refine ewl_off rfl rfl rfl rfl ?_
 refine ewl_run rfl (rn_pickt rfl rfl rfl) ?_
 refine ewl_run rfl (rn_move rfl) ?_
 refine ewl_off rfl rfl rfl rfl ?_
 refine ewl_off rfl rfl rfl rfl ?_
 refine ewl_run rfl (rn_pickt rfl rfl rfl) ?_
 refine ewl_run rfl (rn_assign rfl) ?_
 refine ewl_nil ?_
 exact ⟨rfl, le_upd (le_upd (le_upd (le_upd (le_upd (le_upd (le_upd (le_upd (le_upd (le_e0 _) rfl) rfl) rfl) rfl) rfl) rfl) rfl) rfl) (bo (by simp only [signW, Bool.and_true, Bool.true_and, Bool.and_false, Bool.false_and, Bool.or_true, Bool.true_or, Bool.or_false, Bool.false_or, h3, h4, h5, h6, h7, h8, h9, h10])), rfl, rfl⟩
 refine ewl_grd rfl rfl h10 ?_
 refine ewl_run rfl (rn_move rfl) ?_
 refine ewl_grd rfl rfl h10 ?_
 refine ewl_run rfl (rn_eqI rfl rfl) ?_
 refine ewl_run rfl (rn_pickf rfl h10 rfl) ?_
 refine ewl_run rfl (rn_move rfl) ?_
 refine ewl_split 103 rfl (fun h11 => ?_) (fun h11 => ?_)
 refine ewl_off rfl rfl rfl h11 ?_
 refine ewl_off rfl rfl rfl h11 ?_
 refine ewl_run rfl (rn_pickt rfl h11 rfl) ?_
 refine ewl_run rfl (rn_move rfl) ?_
 refine ewl_off rfl rfl rfl rfl ?_
 refine ewl_off rfl rfl rfl rfl ?_
 refine ewl_run rfl (rn_pickt rfl rfl rfl) ?_
 refine ewl_run rfl (rn_move rfl) ?_
 refine ewl_off rfl rfl rfl rfl ?_
 refine ewl_off rfl rfl rfl rfl ?_
 refine ewl_run rfl (rn_pickt rfl rfl rfl) ?_
 refine ewl_run rfl (rn_assign rfl) ?_
 refine ewl_nil ?_
 exact ⟨rfl, le_upd (le_upd (le_upd (le_upd (le_upd (le_upd (le_upd (le_upd (le_upd (le_e0 _) rfl) rfl) rfl) rfl) rfl) rfl) rfl) rfl) (bo (by simp only [signW, Bool.and_true, Bool.true_and, Bool.and_false, Bool.false_and, Bool.or_true, Bool.true_or, Bool.or_false, Bool.false_or, h3, h4, h5, h6, h7, h8, h9, h10, h11])), rfl, rfl⟩
 refine ewl_grd rfl rfl h11 ?_
 refine ewl_run rfl (rn_move rfl) ?_
 refine ewl_grd rfl rfl h11 ?_
 refine ewl_run rfl (rn_eqI rfl rfl) ?_
 refine ewl_run rfl (rn_pickf rfl h11 rfl) ?_
 refine ewl_run rfl (rn_move rfl) ?_
 refine ewl_split 107 rfl (fun h12 => ?_) (fun h12 => ?_)
 refine ewl_off rfl rfl rfl h12 ?_
 refine ewl_off rfl rfl rfl h12 ?_
 refine ewl_run rfl (rn_pickt rfl h12 rfl) ?_
 refine ewl_run rfl (rn_move rfl) ?_
 refine ewl_off rfl rfl rfl rfl ?_
 refine ewl_off rfl rfl rfl rfl ?_
 refine ewl_run rfl (rn_pickt rfl rfl rfl) ?_
 refine ewl_run rfl (rn_assign rfl) ?_
 refine ewl_nil ?_
 exact ⟨rfl, le_upd (le_upd (le_upd (le_upd (le_upd (le_upd (le_upd (le_upd (le_upd (le_e0 _) rfl) rfl) rfl) rfl) rfl) rfl) rfl) rfl) (bo (by simp only [signW, Bool.and_true, Bool.true_and, Bool.and_false, Bool.false_and, Bool.or_true, Bool.true_or, Bool.or_false, Bool.false_or, h3, h4, h5, h6, h7, h8, h9, h10, h11, h12])), rfl, rfl⟩
 refine ewl_grd rfl rfl h12 ?_
 refine ewl_run rfl (rn_move rfl) ?_
 refine ewl_grd rfl rfl h12 ?_
 refine ewl_run rfl (rn_eqI rfl rfl) ?_
 refine ewl_run rfl (rn_pickf rfl h12 rfl) ?_
 refine ewl_run rfl (rn_move rfl) ?_
 refine ewl_split 111 rfl (fun h13 => ?_) (fun h13 => ?_)
 refine ewl_off rfl rfl rfl h13 ?_
 refine ewl_off rfl rfl rfl h13 ?_
 refine ewl_run rfl (rn_pickt rfl h13 rfl) ?_
 refine ewl_run rfl (rn_assign rfl) ?_
 refine ewl_nil ?_
 exact ⟨rfl, le_upd (le_upd (le_upd (le_upd (le_upd (le_upd (le_upd (le_upd (le_upd (le_e0 _) rfl) rfl) rfl) rfl) rfl) rfl) rfl) rfl) (bo (by simp only [signW, Bool.and_true, Bool.true_and, Bool.and_false, Bool.false_and, Bool.or_true, Bool.true_or, Bool.or_false, Bool.false_or, h3, h4, h5, h6, h7, h8, h9, h10, h11, h12, h13])), rfl, rfl⟩
 refine ewl_grd rfl rfl h13 ?_
 refine ewl_run rfl (rn_move rfl) ?_
 refine ewl_grd rfl rfl h13 ?_
 refine ewl_run rfl (rn_eqI rfl rfl) ?_
 refine ewl_run rfl (rn_pickf rfl h13 rfl) ?_
 refine ewl_run rfl (rn_assign rfl) ?_
 refine ewl_nil ?_
 exact ⟨rfl, le_upd (le_upd (le_upd (le_upd (le_upd (le_upd (le_upd (le_upd (le_upd (le_e0 _) rfl) rfl) rfl) rfl) rfl) rfl) rfl) rfl) (bo (by simp only [signW, Bool.and_true, Bool.true_and, Bool.and_false, Bool.false_and, Bool.or_true, Bool.true_or, Bool.or_false, Bool.false_or, h3, h4, h5, h6, h7, h8, h9, h10, h11, h12, h13])), rfl, rfl⟩
 have hT : wordW 0 (s.take (i + 1)) = (wordW 0 (s.take i) && okW i c) := by
   rw [List.take_succ_eq_append_getElem hil, wordW_snoc, List.length_take, Nat.min_eq_left hi, Nat.zero_add, (List.getElem?_eq_some_iff.1 hc).2]
 refine ewp_mid 15 (!(s == []) && wordW 0 (s.take (i + 1))) (upd (upd (upd (upd (upd (upd SW.e0 0 (S s)) 5 (.int .i64 (progS (nt1 s)).2.2.2)) 8 (.int .i64 (progS (nt2 s)).2.2.2)) 11 (.int .i64 (progS (nt3 s)).2.2.2)) 14 (.int .i64 (progS (nt4 s)).2.2.2)) 16 (.int .i64 (i : Int))) ?_ ?_
 refine ewp_reg ?_
 refine ewl_run rfl (rn_move rfl) ?_
 refine ewl_run rfl (rn_move rfl) ?_
 refine ewl_split 116 rfl (fun h14 => ?_) (fun h14 => ?_)
 refine ewl_grd rfl rfl h14 ?_
 refine ewl_run rfl (rn_move rfl) ?_
 refine ewl_grd rfl rfl h14 ?_
 refine ewl_run rfl (rn_geI rfl rfl) ?_
 refine ewl_grd rfl rfl h14 ?_
 refine ewl_run rfl (rn_move rfl) ?_
 refine ewl_split 119 rfl (fun h15 => ?_) (fun h15 => ?_)
 refine ewl_grd rfl rfl h15 ?_
 refine ewl_run rfl (rn_move rfl) ?_
 refine ewl_grd rfl rfl h15 ?_
 refine ewl_run rfl (rn_leI rfl rfl) ?_
 refine ewl_grd rfl rfl h14 ?_
 refine ewl_run rfl (rn_pickt rfl h15 rfl) ?_
 refine ewl_grd rfl rfl h14 ?_
 refine ewl_run rfl (rn_move rfl) ?_
 refine ewl_split 123 rfl (fun h16 => ?_) (fun h16 => ?_)
 refine ewl_off rfl rfl rfl h16 ?_
 refine ewl_grd rfl rfl h14 ?_
 refine ewl_run rfl (rn_pickt rfl h16 rfl) ?_
 refine ewl_grd rfl rfl h14 ?_
 refine ewl_run rfl (rn_move rfl) ?_
 refine ewl_off rfl rfl rfl rfl ?_
 refine ewl_off rfl rfl rfl rfl ?_
 refine ewl_off rfl rfl rfl rfl ?_
 refine ewl_offu rfl rfl rfl ?_
 refine ewl_offu rfl rfl rfl ?_
 refine ewl_offu rfl rfl rfl ?_
 refine ewl_offu rfl rfl rfl ?_
 refine ewl_offu rfl rfl rfl ?_
 refine ewl_offu rfl rfl rfl ?_
 refine ewl_offu rfl rfl rfl ?_
 refine ewl_offu rfl rfl rfl ?_
 refine ewl_offu rfl rfl rfl ?_
 refine ewl_offu rfl rfl rfl ?_
 refine ewl_offu rfl rfl rfl ?_
 refine ewl_offu rfl rfl rfl ?_
 refine ewl_offu rfl rfl rfl ?_
 refine ewl_offu rfl rfl rfl ?_
 refine ewl_off rfl rfl rfl rfl ?_
 refine ewl_grd rfl rfl h14 ?_
 refine ewl_run rfl (rn_pickt rfl rfl rfl) ?_
 refine ewl_run rfl (rn_pickt rfl h14 rfl) ?_
 refine ewl_run rfl (rn_assign rfl) ?_
 refine ewl_nil ?_
 exact ⟨rfl, le_upd (le_upd (le_upd (le_upd (le_upd (le_upd (le_upd (le_e0 _) rfl) rfl) rfl) rfl) rfl) rfl) (bo (by rw [hT, ← Bool.and_assoc]; simp only [okW, smallW, greatW, digW, Bool.and_true, Bool.true_and, Bool.and_false, Bool.false_and, Bool.or_true, Bool.true_or, Bool.or_false, Bool.false_or, h14, h15, h16])), rfl, rfl⟩
 refine ewl_grd rfl rfl h16 ?_
 refine ewl_run rfl (rn_move rfl) ?_
 refine ewl_grd rfl rfl h14 ?_
 refine ewl_run rfl (rn_pickf rfl h16 rfl) ?_
 refine ewl_grd rfl rfl h14 ?_
 refine ewl_run rfl (rn_move rfl) ?_
 refine ewl_split 126 rfl (fun h17 => ?_) (fun h17 => ?_)
 refine ewl_off rfl rfl rfl h17 ?_
 refine ewl_off rfl rfl rfl h17 ?_
 refine ewl_off rfl rfl rfl h17 ?_
 refine ewl_offu rfl rfl rfl ?_
 refine ewl_offu rfl rfl rfl ?_
 refine ewl_offu rfl rfl rfl ?_
 refine ewl_offu rfl rfl rfl ?_
 refine ewl_offu rfl rfl rfl ?_
 refine ewl_offu rfl rfl rfl ?_
 refine ewl_offu rfl rfl rfl ?_
 refine ewl_offu rfl rfl rfl ?_
 refine ewl_offu rfl rfl rfl ?_
 refine ewl_offu rfl rfl rfl ?_
 refine ewl_offu rfl rfl rfl ?_
 refine ewl_offu rfl rfl rfl ?_
 refine ewl_offu rfl rfl rfl ?_
 refine ewl_offu rfl rfl rfl ?_
 refine ewl_off rfl rfl rfl h17 ?_
 refine ewl_grd rfl rfl h14 ?_
 refine ewl_run rfl (rn_pickt rfl h17 rfl) ?_
 refine ewl_run rfl (rn_pickt rfl h14 rfl) ?_
 refine ewl_run rfl (rn_assign rfl) ?_
 refine ewl_nil ?_
 exact ⟨rfl, le_upd (le_upd (le_upd (le_upd (le_upd (le_upd (le_upd (le_e0 _) rfl) rfl) rfl) rfl) rfl) rfl) (bo (by rw [hT, ← Bool.and_assoc]; simp only [okW, smallW, greatW, digW, Bool.and_true, Bool.true_and, Bool.and_false, Bool.false_and, Bool.or_true, Bool.true_or, Bool.or_false, Bool.false_or, h14, h15, h16, h17])), rfl, rfl⟩
 refine ewl_grd rfl rfl h17 ?_
 refine ewl_run rfl (rn_move rfl) ?_
 refine ewl_grd rfl rfl h17 ?_
 refine ewl_run rfl (rn_gtI rfl rfl) ?_
 refine ewl_grd rfl rfl h17 ?_
 refine ewl_run rfl (rn_move rfl) ?_
 refine ewl_split 129 rfl (fun h18 => ?_) (fun h18 => ?_)
 refine ewl_grd rfl rfl h18 ?_
 refine ewl_run rfl (rn_move rfl) ?_
 refine ewl_grd rfl rfl h18 ?_
 refine ewl_run rfl (rn_geI rfl rfl) ?_
 refine ewl_grd rfl rfl h18 ?_
 refine ewl_run rfl (rn_move rfl) ?_
 refine ewl_split 132 rfl (fun h19 => ?_) (fun h19 => ?_)
 refine ewl_grd rfl rfl h19 ?_
 refine ewl_run rfl (rn_move rfl) ?_
 refine ewl_grd rfl rfl h19 ?_
 refine ewl_run rfl (rn_leI rfl rfl) ?_
 refine ewl_grd rfl rfl h18 ?_
 refine ewl_run rfl (rn_pickt rfl h19 rfl) ?_
 refine ewl_grd rfl rfl h18 ?_
 refine ewl_run rfl (rn_move rfl) ?_
 refine ewl_split 136 rfl (fun h20 => ?_) (fun h20 => ?_)
 refine ewl_off rfl rfl rfl h20 ?_
 refine ewl_off rfl rfl rfl h20 ?_
 refine ewl_off rfl rfl rfl h20 ?_
 refine ewl_offu rfl rfl rfl ?_
 refine ewl_offu rfl rfl rfl ?_
 refine ewl_off rfl rfl rfl h20 ?_
 refine ewl_grd rfl rfl h18 ?_
 refine ewl_run rfl (rn_pickt rfl h20 rfl) ?_
 refine ewl_grd rfl rfl h17 ?_
 refine ewl_run rfl (rn_pickt rfl h18 rfl) ?_
 refine ewl_grd rfl rfl h14 ?_
 refine ewl_run rfl (rn_pickf rfl h17 rfl) ?_
 refine ewl_run rfl (rn_pickt rfl h14 rfl) ?_
 refine ewl_run rfl (rn_assign rfl) ?_
 refine ewl_nil ?_
 exact ⟨rfl, le_upd (le_upd (le_upd (le_upd (le_upd (le_upd (le_upd (le_e0 _) rfl) rfl) rfl) rfl) rfl) rfl) (bo (by rw [hT, ← Bool.and_assoc]; simp only [okW, smallW, greatW, digW, Bool.and_true, Bool.true_and, Bool.and_false, Bool.false_and, Bool.or_true, Bool.true_or, Bool.or_false, Bool.false_or, h14, h15, h16, h17, h18, h19, h20])), rfl, rfl⟩
 refine ewl_grd rfl rfl h20 ?_
 refine ewl_run rfl (rn_move rfl) ?_
 refine ewl_grd rfl rfl h20 ?_
 refine ewl_run rfl (rn_geI rfl rfl) ?_
 refine ewl_grd rfl rfl h20 ?_
 refine ewl_run rfl (rn_move rfl) ?_
 refine ewl_split 139 rfl (fun h21 => ?_) (fun h21 => ?_)
 refine ewl_grd rfl rfl h21 ?_
 refine ewl_run rfl (rn_move rfl) ?_
 refine ewl_grd rfl rfl h21 ?_
 refine ewl_run rfl (rn_leI rfl rfl) ?_
 refine ewl_grd rfl rfl h20 ?_
 refine ewl_run rfl (rn_pickt rfl h21 rfl) ?_
 refine ewl_grd rfl rfl h18 ?_
 refine ewl_run rfl (rn_pickf rfl h20 rfl) ?_
 refine ewl_grd rfl rfl h17 ?_
 refine ewl_run rfl (rn_pickt rfl h18 rfl) ?_
 refine ewl_grd rfl rfl h14 ?_
 refine ewl_run rfl (rn_pickf rfl h17 rfl) ?_
 refine ewl_run rfl (rn_pickt rfl h14 rfl) ?_
 refine ewl_run rfl (rn_assign rfl) ?_
 refine ewl_nil ?_
 exact ⟨rfl, le_upd (le_upd (le_upd (le_upd (le_upd (le_upd (le_upd (le_e0 _) rfl) rfl) rfl) rfl) rfl) rfl) (bo (by rw [hT, ← Bool.and_assoc]; simp only [okW, smallW, greatW, digW, Bool.and_true, Bool.true_and, Bool.and_false, Bool.false_and, Bool.or_true, Bool.true_or, Bool.or_false, Bool.false_or, h14, h15, h16, h17, h18, h19, h20, h21])), rfl, rfl⟩
 refine ewl_off rfl rfl rfl h21 ?_
 refine ewl_off rfl rfl rfl h21 ?_
 refine ewl_grd rfl rfl h20 ?_
 refine ewl_run rfl (rn_pickf rfl h21 rfl) ?_
 refine ewl_grd rfl rfl h18 ?_
 refine ewl_run rfl (rn_pickf rfl h20 rfl) ?_
 refine ewl_grd rfl rfl h17 ?_
 refine ewl_run rfl (rn_pickt rfl h18 rfl) ?_
 refine ewl_grd rfl rfl h14 ?_
 refine ewl_run rfl (rn_pickf rfl h17 rfl) ?_
 refine ewl_run rfl (rn_pickt rfl h14 rfl) ?_
 refine ewl_run rfl (rn_assign rfl) ?_
 refine ewl_nil ?_
 exact ⟨rfl, le_upd (le_upd (le_upd (le_upd (le_upd (le_upd (le_upd (le_e0 _) rfl) rfl) rfl) rfl) rfl) rfl) (bo (by rw [hT, ← Bool.and_assoc]; simp only [okW, smallW, greatW, digW, Bool.and_true, Bool.true_and, Bool.and_false, Bool.false_and, Bool.or_true, Bool.true_or, Bool.or_false, Bool.false_or, h14, h15, h16, h17, h18, h19, h20, h21])), rfl, rfl⟩
 refine ewl_off rfl rfl rfl h19 ?_
 refine ewl_off rfl rfl rfl h19 ?_
 refine ewl_grd rfl rfl h18 ?_
 refine ewl_run rfl (rn_pickf rfl h19 rfl) ?_
 refine ewl_grd rfl rfl h18 ?_
 refine ewl_run rfl (rn_move rfl) ?_
 refine ewl_grd rfl rfl rfl ?_
 refine ewl_run rfl (rn_move rfl) ?_
 refine ewl_grd rfl rfl rfl ?_
 refine ewl_run rfl (rn_geI rfl rfl) ?_
 refine ewl_grd rfl rfl rfl ?_
 refine ewl_run rfl (rn_move rfl) ?_
 refine ewl_split 139 rfl (fun h22 => ?_) (fun h22 => ?_)
 refine ewl_grd rfl rfl h22 ?_
 refine ewl_run rfl (rn_move rfl) ?_
 refine ewl_grd rfl rfl h22 ?_
 refine ewl_run rfl (rn_leI rfl rfl) ?_
 refine ewl_grd rfl rfl rfl ?_
 refine ewl_run rfl (rn_pickt rfl h22 rfl) ?_
 refine ewl_grd rfl rfl h18 ?_
 refine ewl_run rfl (rn_pickf rfl rfl rfl) ?_
 refine ewl_grd rfl rfl h17 ?_
 refine ewl_run rfl (rn_pickt rfl h18 rfl) ?_
 refine ewl_grd rfl rfl h14 ?_
 refine ewl_run rfl (rn_pickf rfl h17 rfl) ?_
 refine ewl_run rfl (rn_pickt rfl h14 rfl) ?_
 refine ewl_run rfl (rn_assign rfl) ?_
 refine ewl_nil ?_
 exact ⟨rfl, le_upd (le_upd (le_upd (le_upd (le_upd (le_upd (le_upd (le_e0 _) rfl) rfl) rfl) rfl) rfl) rfl) (bo (by rw [hT, ← Bool.and_assoc]; simp only [okW, smallW, greatW, digW, Bool.and_true, Bool.true_and, Bool.and_false, Bool.false_and, Bool.or_true, Bool.true_or, Bool.or_false, Bool.false_or, h14, h15, h16, h17, h18, h19, h22])), rfl, rfl⟩
 refine ewl_off rfl rfl rfl h22 ?_
 refine ewl_off rfl rfl rfl h22 ?_
 refine ewl_grd rfl rfl rfl ?_
 refine ewl_run rfl (rn_pickf rfl h22 rfl) ?_
 refine ewl_grd rfl rfl h18 ?_
 refine ewl_run rfl (rn_pickf rfl rfl rfl) ?_
 refine ewl_grd rfl rfl h17 ?_
 refine ewl_run rfl (rn_pickt rfl h18 rfl) ?_
 refine ewl_grd rfl rfl h14 ?_
 refine ewl_run rfl (rn_pickf rfl h17 rfl) ?_
 refine ewl_run rfl (rn_pickt rfl h14 rfl) ?_
 refine ewl_run rfl (rn_assign rfl) ?_
 refine ewl_nil ?_
 exact ⟨rfl, le_upd (le_upd (le_upd (le_upd (le_upd (le_upd (le_upd (le_e0 _) rfl) rfl) rfl) rfl) rfl) rfl) (bo (by rw [hT, ← Bool.and_assoc]; simp only [okW, smallW, greatW, digW, Bool.and_true, Bool.true_and, Bool.and_false, Bool.false_and, Bool.or_true, Bool.true_or, Bool.or_false, Bool.false_or, h14, h15, h16, h17, h18, h19, h22])), rfl, rfl⟩
 refine ewl_off rfl rfl rfl h18 ?_
 refine ewl_off rfl rfl rfl h18 ?_
 refine ewl_off rfl rfl rfl h18 ?_
 refine ewl_offu rfl rfl rfl ?_
 refine ewl_offu rfl rfl rfl ?_
 refine ewl_off rfl rfl rfl h18 ?_
 refine ewl_off rfl rfl rfl h18 ?_
 refine ewl_offu rfl rfl rfl ?_
 refine ewl_offu rfl rfl rfl ?_
 refine ewl_offu rfl rfl rfl ?_
 refine ewl_offu rfl rfl rfl ?_
 refine ewl_offu rfl rfl rfl ?_
 refine ewl_offu rfl rfl rfl ?_
 refine ewl_off rfl rfl rfl h18 ?_
 refine ewl_grd rfl rfl h17 ?_
 refine ewl_run rfl (rn_pickf rfl h18 rfl) ?_
 refine ewl_grd rfl rfl h14 ?_
 refine ewl_run rfl (rn_pickf rfl h17 rfl) ?_
 refine ewl_run rfl (rn_pickt rfl h14 rfl) ?_
 refine ewl_run rfl (rn_assign rfl) ?_
 refine ewl_nil ?_
 exact ⟨rfl, le_upd (le_upd (le_upd (le_upd (le_upd (le_upd (le_upd (le_e0 _) rfl) rfl) rfl) rfl) rfl) rfl) (bo (by rw [hT, ← Bool.and_assoc]; simp only [okW, smallW, greatW, digW, Bool.and_true, Bool.true_and, Bool.and_false, Bool.false_and, Bool.or_true, Bool.true_or, Bool.or_false, Bool.false_or, h14, h15, h16, h17, h18])), rfl, rfl⟩
 refine ewl_off rfl rfl rfl h15 ?_
 refine ewl_off rfl rfl rfl h15 ?_
 refine ewl_grd rfl rfl h14 ?_
 refine ewl_run rfl (rn_pickf rfl h15 rfl) ?_
 refine ewl_grd rfl rfl h14 ?_
 refine ewl_run rfl (rn_move rfl) ?_
 refine ewl_grd rfl rfl rfl ?_
 refine ewl_run rfl (rn_move rfl) ?_
 refine ewl_grd rfl rfl h14 ?_
 refine ewl_run rfl (rn_pickf rfl rfl rfl) ?_
 refine ewl_grd rfl rfl h14 ?_
 refine ewl_run rfl (rn_move rfl) ?_
 refine ewl_split 126 rfl (fun h23 => ?_) (fun h23 => ?_)
 refine ewl_off rfl rfl rfl h23 ?_
 refine ewl_off rfl rfl rfl h23 ?_
 refine ewl_off rfl rfl rfl h23 ?_
 refine ewl_offu rfl rfl rfl ?_
 refine ewl_offu rfl rfl rfl ?_
 refine ewl_offu rfl rfl rfl ?_
 refine ewl_offu rfl rfl rfl ?_
 refine ewl_offu rfl rfl rfl ?_
 refine ewl_offu rfl rfl rfl ?_
 refine ewl_offu rfl rfl rfl ?_
 refine ewl_offu rfl rfl rfl ?_
 refine ewl_offu rfl rfl rfl ?_
 refine ewl_offu rfl rfl rfl ?_
 refine ewl_offu rfl rfl rfl ?_
 refine ewl_offu rfl rfl rfl ?_
 refine ewl_offu rfl rfl rfl ?_
 refine ewl_offu rfl rfl rfl ?_
 refine ewl_off rfl rfl rfl h23 ?_
 refine ewl_grd rfl rfl h14 ?_
 refine ewl_run rfl (rn_pickt rfl h23 rfl) ?_
 refine ewl_run rfl (rn_pickt rfl h14 rfl) ?_
 refine ewl_run rfl (rn_assign rfl) ?_
 refine ewl_nil ?_
 exact ⟨rfl, le_upd (le_upd (le_upd (le_upd (le_upd (le_upd (le_upd (le_e0 _) rfl) rfl) rfl) rfl) rfl) rfl) (bo (by rw [hT, ← Bool.and_assoc]; simp only [okW, smallW, greatW, digW, Bool.and_true, Bool.true_and, Bool.and_false, Bool.false_and, Bool.or_true, Bool.true_or, Bool.or_false, Bool.false_or, h14, h15, h23])), rfl, rfl⟩
 refine ewl_grd rfl rfl h23 ?_
 refine ewl_run rfl (rn_move rfl) ?_
 refine ewl_grd rfl rfl h23 ?_
 refine ewl_run rfl (rn_gtI rfl rfl) ?_
 refine ewl_grd rfl rfl h23 ?_
 refine ewl_run rfl (rn_move rfl) ?_
 refine ewl_split 129 rfl (fun h24 => ?_) (fun h24 => ?_)
 refine ewl_grd rfl rfl h24 ?_
 refine ewl_run rfl (rn_move rfl) ?_
 refine ewl_grd rfl rfl h24 ?_
 refine ewl_run rfl (rn_geI rfl rfl) ?_
 refine ewl_grd rfl rfl h24 ?_
 refine ewl_run rfl (rn_move rfl) ?_
 refine ewl_split 132 rfl (fun h25 => ?_) (fun h25 => ?_)
 refine ewl_grd rfl rfl h25 ?_
 refine ewl_run rfl (rn_move rfl) ?_
 refine ewl_grd rfl rfl h25 ?_
 refine ewl_run rfl (rn_leI rfl rfl) ?_
 refine ewl_grd rfl rfl h24 ?_
 refine ewl_run rfl (rn_pickt rfl h25 rfl) ?_
 refine ewl_grd rfl rfl h24 ?_
 refine ewl_run rfl (rn_move rfl) ?_
 refine ewl_split 136 rfl (fun h26 => ?_) (fun h26 => ?_)
 refine ewl_off rfl rfl rfl h26 ?_
 refine ewl_off rfl rfl rfl h26 ?_
 refine ewl_off rfl rfl rfl h26 ?_
 refine ewl_offu rfl rfl rfl ?_
 refine ewl_offu rfl rfl rfl ?_
 refine ewl_off rfl rfl rfl h26 ?_
 refine ewl_grd rfl rfl h24 ?_
 refine ewl_run rfl (rn_pickt rfl h26 rfl) ?_
 refine ewl_grd rfl rfl h23 ?_
 refine ewl_run rfl (rn_pickt rfl h24 rfl) ?_
 refine ewl_grd rfl rfl h14 ?_
 refine ewl_run rfl (rn_pickf rfl h23 rfl) ?_
 refine ewl_run rfl (rn_pickt rfl h14 rfl) ?_
 refine ewl_run rfl (rn_assign rfl) ?_
 refine ewl_nil ?_
 exact ⟨rfl, le_upd (le_upd (le_upd (le_upd (le_upd (le_upd (le_upd (le_e0 _) rfl) rfl) rfl) rfl) rfl) rfl) (bo (by rw [hT, ← Bool.and_assoc]; simp only [okW, smallW, greatW, digW, Bool.and_true, Bool.true_and, Bool.and_false, Bool.false_and, Bool.or_true, Bool.true_or, Bool.or_false, Bool.false_or, h14, h15, h23, h24, h25, h26])), rfl, rfl⟩
 refine ewl_grd rfl rfl h26 ?_
 refine ewl_run rfl (rn_move rfl) ?_
 refine ewl_grd rfl rfl h26 ?_
 refine ewl_run rfl (rn_geI rfl rfl) ?_
 refine ewl_grd rfl rfl h26 ?_
 refine ewl_run rfl (rn_move rfl) ?_
 refine ewl_split 139 rfl (fun h27 => ?_) (fun h27 => ?_)
 refine ewl_grd rfl rfl h27 ?_
 refine ewl_run rfl (rn_move rfl) ?_
 refine ewl_grd rfl rfl h27 ?_
 refine ewl_run rfl (rn_leI rfl rfl) ?_
 refine ewl_grd rfl rfl h26 ?_
 refine ewl_run rfl (rn_pickt rfl h27 rfl) ?_
 refine ewl_grd rfl rfl h24 ?_
 refine ewl_run rfl (rn_pickf rfl h26 rfl) ?_
 refine ewl_grd rfl rfl h23 ?_
 refine ewl_run rfl (rn_pickt rfl h24 rfl) ?_
 refine ewl_grd rfl rfl h14 ?_
 refine ewl_run rfl (rn_pickf rfl h23 rfl) ?_
 refine ewl_run rfl (rn_pickt rfl h14 rfl) ?_
 refine ewl_run rfl (rn_assign rfl) ?_
 refine ewl_nil ?_
 exact ⟨rfl, le_upd (le_upd (le_upd (le_upd (le_upd (le_upd (le_upd (le_e0 _) rfl) rfl) rfl) rfl) rfl) rfl) (bo (by rw [hT, ← Bool.and_assoc]; simp only [okW, smallW, greatW, digW, Bool.and_true, Bool.true_and, Bool.and_false, Bool.false_and, Bool.or_true, Bool.true_or, Bool.or_false, Bool.false_or, h14, h15, h23, h24, h25, h26, h27])), rfl, rfl⟩
 refine ewl_off rfl rfl rfl h27 ?_
 refine ewl_off rfl rfl rfl h27 ?_
 refine ewl_grd rfl rfl h26 ?_
 refine ewl_run rfl (rn_pickf rfl h27 rfl) ?_
 refine ewl_grd rfl rfl h24 ?_
 refine ewl_run rfl (rn_pickf rfl h26 rfl) ?_
 refine ewl_grd rfl rfl h23 ?_
 refine ewl_run rfl (rn_pickt rfl h24 rfl) ?_
 refine ewl_grd rfl rfl h14 ?_
 refine ewl_run rfl (rn_pickf rfl h23 rfl) ?_
 refine ewl_run rfl (rn_pickt rfl h14 rfl) ?_
 refine ewl_run rfl (rn_assign rfl) ?_
 refine ewl_nil ?_
 exact ⟨rfl, le_upd (le_upd (le_upd (le_upd (le_upd (le_upd (le_upd (le_e0 _) rfl) rfl) rfl) rfl) rfl) rfl) (bo (by rw [hT, ← Bool.and_assoc]; simp only [okW, smallW, greatW, digW, Bool.and_true, Bool.true_and, Bool.and_false, Bool.false_and, Bool.or_true, Bool.true_or, Bool.or_false, Bool.false_or, h14, h15, h23, h24, h25, h26, h27])), rfl, rfl⟩
 refine ewl_off rfl rfl rfl h25 ?_
 refine ewl_off rfl rfl rfl h25 ?_
 refine ewl_grd rfl rfl h24 ?_
 refine ewl_run rfl (rn_pickf rfl h25 rfl) ?_
 refine ewl_grd rfl rfl h24 ?_
 refine ewl_run rfl (rn_move rfl) ?_
 refine ewl_grd rfl rfl rfl ?_
 refine ewl_run rfl (rn_move rfl) ?_
 refine ewl_grd rfl rfl rfl ?_
 refine ewl_run rfl (rn_geI rfl rfl) ?_
 refine ewl_grd rfl rfl rfl ?_
 refine ewl_run rfl (rn_move rfl) ?_
 refine ewl_split 139 rfl (fun h28 => ?_) (fun h28 => ?_)
 refine ewl_grd rfl rfl h28 ?_
 refine ewl_run rfl (rn_move rfl) ?_
 refine ewl_grd rfl rfl h28 ?_
 refine ewl_run rfl (rn_leI rfl rfl) ?_
 refine ewl_grd rfl rfl rfl ?_
 refine ewl_run rfl (rn_pickt rfl h28 rfl) ?_
 refine ewl_grd rfl rfl h24 ?_
 refine ewl_run rfl (rn_pickf rfl rfl rfl) ?_
 refine ewl_grd rfl rfl h23 ?_
 refine ewl_run rfl (rn_pickt rfl h24 rfl) ?_
 refine ewl_grd rfl rfl h14 ?_
 refine ewl_run rfl (rn_pickf rfl h23 rfl) ?_
 refine ewl_run rfl (rn_pickt rfl h14 rfl) ?_
 refine ewl_run rfl (rn_assign rfl) ?_
 refine ewl_nil ?_
 exact ⟨rfl, le_upd (le_upd (le_upd (le_upd (le_upd (le_upd (le_upd (le_e0 _) rfl) rfl) rfl) rfl) rfl) rfl) (bo (by rw [hT, ← Bool.and_assoc]; simp only [okW, smallW, greatW, digW, Bool.and_true, Bool.true_and, Bool.and_false, Bool.false_and, Bool.or_true, Bool.true_or, Bool.or_false, Bool.false_or, h14, h15, h23, h24, h25, h28])), rfl, rfl⟩
 refine ewl_off rfl rfl rfl h28 ?_
 refine ewl_off rfl rfl rfl h28 ?_
 refine ewl_grd rfl rfl rfl ?_
 refine ewl_run rfl (rn_pickf rfl h28 rfl) ?_
 refine ewl_grd rfl rfl h24 ?_
 refine ewl_run rfl (rn_pickf rfl rfl rfl) ?_
 refine ewl_grd rfl rfl h23 ?_
 refine ewl_run rfl (rn_pickt rfl h24 rfl) ?_
 refine ewl_grd rfl rfl h14 ?_
 refine ewl_run rfl (rn_pickf rfl h23 rfl) ?_
 refine ewl_run rfl (rn_pickt rfl h14 rfl) ?_
 refine ewl_run rfl (rn_assign rfl) ?_
 refine ewl_nil ?_
 exact ⟨rfl, le_upd (le_upd (le_upd (le_upd (le_upd (le_upd (le_upd (le_e0 _) rfl) rfl) rfl) rfl) rfl) rfl) (bo (by rw [hT, ← Bool.and_assoc]; simp only [okW, smallW, greatW, digW, Bool.and_true, Bool.true_and, Bool.and_false, Bool.false_and, Bool.or_true, Bool.true_or, Bool.or_false, Bool.false_or, h14, h15, h23, h24, h25, h28])), rfl, rfl⟩
 refine ewl_off rfl rfl rfl h24 ?_
 refine ewl_off rfl rfl rfl h24 ?_
 refine ewl_off rfl rfl rfl h24 ?_
 refine ewl_offu rfl rfl rfl ?_
 refine ewl_offu rfl rfl rfl ?_
 refine ewl_off rfl rfl rfl h24 ?_
 refine ewl_off rfl rfl rfl h24 ?_
 refine ewl_offu rfl rfl rfl ?_
 refine ewl_offu rfl rfl rfl ?_
 refine ewl_offu rfl rfl rfl ?_
 refine ewl_offu rfl rfl rfl ?_
 refine ewl_offu rfl rfl rfl ?_
 refine ewl_offu rfl rfl rfl ?_
 refine ewl_off rfl rfl rfl h24 ?_
 refine ewl_grd rfl rfl h23 ?_
 refine ewl_run rfl (rn_pickf rfl h24 rfl) ?_
 refine ewl_grd rfl rfl h14 ?_
 refine ewl_run rfl (rn_pickf rfl h23 rfl) ?_
 refine ewl_run rfl (rn_pickt rfl h14 rfl) ?_
 refine ewl_run rfl (rn_assign rfl) ?_
 refine ewl_nil ?_
 exact ⟨rfl, le_upd (le_upd (le_upd (le_upd (le_upd (le_upd (le_upd (le_e0 _) rfl) rfl) rfl) rfl) rfl) rfl) (bo (by rw [hT, ← Bool.and_assoc]; simp only [okW, smallW, greatW, digW, Bool.and_true, Bool.true_and, Bool.and_false, Bool.false_and, Bool.or_true, Bool.true_or, Bool.or_false, Bool.false_or, h14, h15, h23, h24])), rfl, rfl⟩
 refine ewl_off rfl rfl rfl h14 ?_
 refine ewl_off rfl rfl rfl h14 ?_
 refine ewl_off rfl rfl rfl h14 ?_
 refine ewl_offu rfl rfl rfl ?_
 refine ewl_offu rfl rfl rfl ?_
 refine ewl_off rfl rfl rfl h14 ?_
 refine ewl_off rfl rfl rfl h14 ?_
 refine ewl_offu rfl rfl rfl ?_
 refine ewl_off rfl rfl rfl h14 ?_
 refine ewl_off rfl rfl rfl h14 ?_
 refine ewl_offu rfl rfl rfl ?_
 refine ewl_offu rfl rfl rfl ?_
 refine ewl_offu rfl rfl rfl ?_
 refine ewl_offu rfl rfl rfl ?_
 refine ewl_offu rfl rfl rfl ?_
 refine ewl_offu rfl rfl rfl ?_
 refine ewl_offu rfl rfl rfl ?_
 refine ewl_offu rfl rfl rfl ?_
 refine ewl_offu rfl rfl rfl ?_
 refine ewl_offu rfl rfl rfl ?_
 refine ewl_offu rfl rfl rfl ?_
 refine ewl_offu rfl rfl rfl ?_
 refine ewl_offu rfl rfl rfl ?_
 refine ewl_offu rfl rfl rfl ?_
 refine ewl_offu rfl rfl rfl ?_
 refine ewl_offu rfl rfl rfl ?_
 refine ewl_offu rfl rfl rfl ?_
 refine ewl_offu rfl rfl rfl ?_
 refine ewl_off rfl rfl rfl h14 ?_
 refine ewl_run rfl (rn_pickf rfl h14 rfl) ?_
 refine ewl_run rfl (rn_assign rfl) ?_
 refine ewl_nil ?_
 exact ⟨rfl, le_upd (le_upd (le_upd (le_upd (le_upd (le_upd (le_upd (le_e0 _) rfl) rfl) rfl) rfl) rfl) rfl) (bo (by rw [hT, ← Bool.and_assoc]; simp only [okW, smallW, greatW, digW, Bool.and_true, Bool.true_and, Bool.and_false, Bool.false_and, Bool.or_true, Bool.true_or, Bool.or_false, Bool.false_or, h14])), rfl, rfl⟩
 refine blk_n ?_
 refine thn_n ?_
 refine ewp_reg ?_
 refine ewl_run rfl (rn_move rfl) ?_
 refine ewl_run rfl (rn_add rfl rfl ⟨by omega, by omega⟩) ?_
 refine ewl_run rfl (rn_assign rfl) ?_
 refine ewl_nil ?_
 refine lp_n (s.length - (i + 1)) (upd (upd (upd (upd (upd (upd (upd SW.e0 0 (S s)) 5 (.int .i64 (progS (nt1 s)).2.2.2)) 8 (.int .i64 (progS (nt2 s)).2.2.2)) 11 (.int .i64 (progS (nt3 s)).2.2.2)) 14 (.int .i64 (progS (nt4 s)).2.2.2)) 15 (.bool (!(s == []) && wordW 0 (s.take (i + 1))))) 16 (.int .i64 ((i + 1 : Nat) : Int))) (by omega) (le_upd (le_upd (le_upd (le_upd (le_upd (le_upd (le_upd (le_e0 _) rfl) rfl) rfl) rfl) rfl) rfl) rfl) ⟨i + 1, rfl, rfl, rfl, by omega, hX⟩
 refine ewp_exit ?_
 refine thn_e ?_
 refine lp_e ?_
 refine blk_e ?_
 refine thn_n ?_
 refine ewp_seq ?_
 refine ewp_seq ?_
 have hie : s.take i = s := List.take_of_length_le (by have := of_decide_eq_false h2; omega)
 refine ewp_reg ?_
 refine ewl_ret rfl (en_call ent8 rfl rfl) (parses_spec _ (hG.ext hX)) ?_
 rintro _ w14 ⟨rfl, hE10⟩
 replace hX := hX.trans hE10
 have sz10 := hE10.size
 refine ewl_run rfl (rn_nott rfl rfl) ?_
 refine ewl_run rfl (rn_move rfl) ?_
 refine ewl_grd rfl rfl rfl ?_
 refine ewl_run rfl (rn_move rfl) ?_
 refine ewl_grd rfl rfl rfl ?_
 refine ewl_run rfl (rn_not rfl) ?_
 refine ewl_run rfl (rn_pickf rfl rfl rfl) ?_
 refine ewl_run rfl (rn_move rfl) ?_
 refine ewl_split 153 rfl (fun h29 => ?_) (fun h29 => ?_)
 replace h29 := nott h29
 refine ewl_off rfl rfl rfl (congrArg Bool.not h29) ?_
 refine ewl_off rfl rfl rfl (congrArg Bool.not h29) ?_
 refine ewl_off rfl rfl rfl (congrArg Bool.not h29) ?_
 refine ewl_run rfl (rn_pickt rfl (congrArg Bool.not h29) rfl) ?_
 refine ewl_nil ?_
 refine thn_n ?_
 refine ewp_ift rfl rfl ?_
 refine ewp_seq ?_
 refine ewp_reg ?_
 refine ewl_ret rfl (en_call ent8 rfl rfl) (parses_spec _ (hG.ext hX)) ?_
 rintro _ w15 ⟨rfl, hE11⟩
 replace hX := hX.trans hE11
 have sz11 := hE11.size
 refine ewl_run rfl (rn_assign rfl) ?_
 refine ewl_nil ?_
 refine thn_n ?_
 refine ewp_ret ?_
 refine thn_r ?_
 refine fn_r (resv rfl (rv_tmp rfl)) ?_
 exact ⟨rfl, hX⟩
 replace h29 := notf h29
 refine ewl_grd rfl rfl (congrArg Bool.not h29) ?_
 refine ewl_run rfl (rn_move rfl) ?_
 refine ewl_grd rfl rfl (congrArg Bool.not h29) ?_
 refine ewl_run rfl (rn_lenS rfl un9) ?_
 refine ewl_grd rfl rfl (congrArg Bool.not h29) ?_
 refine ewl_run rfl (rn_gtI rfl rfl) ?_
 refine ewl_run rfl (rn_pickf rfl (congrArg Bool.not h29) rfl) ?_
 refine ewl_nil ?_
 refine thn_n ?_
 refine ewp_if rfl (fun h30 => ?_) (fun h30 => ?_)
 refine ewp_seq ?_
 refine ewp_reg ?_
 refine ewl_ret rfl (en_call ent8 rfl rfl) (parses_spec _ (hG.ext hX)) ?_
 rintro _ w16 ⟨rfl, hE12⟩
 replace hX := hX.trans hE12
 have sz12 := hE12.size
 refine ewl_run rfl (rn_assign rfl) ?_
 refine ewl_nil ?_
 refine thn_n ?_
 refine ewp_ret ?_
 refine thn_r ?_
 refine fn_r (resv rfl (rv_tmp rfl)) ?_
 exact ⟨rfl, hX⟩
 refine ewp_skip ?_
 refine thn_n ?_
 obtain ⟨hs0, hw⟩ : (!(s == [])) = true ∧ wordW 0 s = true := by have hh := h29; rw [hie] at hh; simpa using hh
 have hl4 : s.length ≤ 40 := by have := of_decide_eq_false h30; omega
 have hne : s ≠ [] := by simpa using hs0
 obtain ⟨c0, r0, rfl⟩ := List.exists_cons_of_ne_nil hne
 have hc0 : (c0 :: r0)[(0 : Int).toNat]? = some c0 := rfl
 have hlr : (c0 :: r0).length = r0.length + 1 := rfl
 refine ewp_seqm 19 (numW (c0 :: r0)) (upd (upd (upd (upd (upd SW.e0 0 (S (c0 :: r0))) 5 (.int .i64 (progS (nt1 (c0 :: r0))).2.2.2)) 8 (.int .i64 (progS (nt2 (c0 :: r0))).2.2.2)) 11 (.int .i64 (progS (nt3 (c0 :: r0))).2.2.2)) 14 (.int .i64 (progS (nt4 (c0 :: r0))).2.2.2)) ?_ ?_
 refine ewp_reg ?_
 refine ewl_run rfl (rn_move rfl) ?_
 refine ewl_run rfl (rn_lenS rfl un9) ?_
 refine ewl_run rfl (rn_gtI rfl rfl) ?_
 refine ewl_run rfl (rn_move rfl) ?_
 refine ewl_split 162 rfl (fun h31 => ?_) (fun h31 => ?_)
 refine ewl_grd rfl rfl h31 ?_
 refine ewl_run rfl (rn_move rfl) ?_
 refine ewl_grd rfl rfl h31 ?_
 refine ewl_run rfl (rn_ixS rfl rfl un9 (by omega) hc0) ?_
 refine ewl_grd rfl rfl h31 ?_
 refine ewl_run rfl (rn_eqI rfl rfl) ?_
 refine ewl_run rfl (rn_pickt rfl h31 rfl) ?_
 refine ewl_run rfl (rn_assign rfl) ?_
 refine ewl_nil ?_
 exact ⟨rfl, le_upd (le_upd (le_upd (le_upd (le_upd (le_upd (le_e0 _) rfl) rfl) rfl) rfl) rfl) (bo (by simp only [numW, hd0, List.headD_cons, Bool.and_true, Bool.true_and, Bool.and_false, Bool.false_and, Bool.or_true, Bool.true_or, Bool.or_false, Bool.false_or, h31])), rfl, rfl⟩
 refine ewl_off rfl rfl rfl h31 ?_
 refine ewl_off rfl rfl rfl h31 ?_
 refine ewl_off rfl rfl rfl h31 ?_
 refine ewl_run rfl (rn_pickf rfl h31 rfl) ?_
 refine ewl_run rfl (rn_assign rfl) ?_
 refine ewl_nil ?_
 exact ⟨rfl, le_upd (le_upd (le_upd (le_upd (le_upd (le_upd (le_e0 _) rfl) rfl) rfl) rfl) rfl) (bo (by simp only [numW, hd0, List.headD_cons, Bool.and_true, Bool.true_and, Bool.and_false, Bool.false_and, Bool.or_true, Bool.true_or, Bool.or_false, Bool.false_or, h31])), rfl, rfl⟩
 refine ewp_seq ?_
 refine ewp_seq ?_
 refine ewp_reg ?_
 refine ewl_run rfl (rn_assign rfl) ?_
 refine ewl_nil ?_
 refine thn_n ?_
 refine ewp_block ?_
 refine ewp_loop (fun kk σ ds w' => ∃ j : Nat, kk = (c0 :: r0).length - j ∧ ds = [] ∧ σ = (upd (upd (upd (upd (upd (upd (upd SW.e0 0 (S (c0 :: r0))) 5 (.int .i64 (progS (nt1 (c0 :: r0))).2.2.2)) 8 (.int .i64 (progS (nt2 (c0 :: r0))).2.2.2)) 11 (.int .i64 (progS (nt3 (c0 :: r0))).2.2.2)) 14 (.int .i64 (progS (nt4 (c0 :: r0))).2.2.2)) 19 (.bool (numW (c0 :: r0) && (((c0 :: r0).drop 1).take j).all numC))) 20 (.int .i64 ((j : Int) + 1))) ∧ j + 1 ≤ (c0 :: r0).length ∧ Ext w w') (c0 :: r0).length (upd (upd (upd (upd (upd (upd (upd SW.e0 0 (S (c0 :: r0))) 5 (.int .i64 (progS (nt1 (c0 :: r0))).2.2.2)) 8 (.int .i64 (progS (nt2 (c0 :: r0))).2.2.2)) 11 (.int .i64 (progS (nt3 (c0 :: r0))).2.2.2)) 14 (.int .i64 (progS (nt4 (c0 :: r0))).2.2.2)) 19 (.bool (numW (c0 :: r0) && (((c0 :: r0).drop 1).take 0).all numC))) 20 (.int .i64 (((0 : Nat) : Int) + 1))) (le_upd (le_upd (le_upd (le_upd (le_upd (le_upd (le_upd (le_e0 _) rfl) rfl) rfl) rfl) rfl) (bo (by simp))) rfl) ⟨0, rfl, rfl, rfl, by simp, hX⟩ ?_
 rintro _ _ _ wl ⟨j, rfl, rfl, rfl, hj, hX⟩
 refine ewp_seq ?_
 refine ewp_seq ?_
 refine ewp_reg ?_
 refine ewl_run rfl (rn_move rfl) ?_
 refine ewl_run rfl (rn_move rfl) ?_
 refine ewl_run rfl (rn_lenS rfl un9) ?_
 refine ewl_run rfl (rn_ltI rfl rfl) ?_
 refine ewl_nil ?_
 refine thn_n ?_
 refine ewp_if rfl (fun h32 => ?_) (fun h32 => ?_)
 refine ewp_skip ?_
 refine thn_n ?_
 refine ewp_seq ?_
 refine ewp_block ?_
 have hjl : j + 1 < (c0 :: r0).length := by have := of_decide_eq_true h32; omega
 obtain ⟨c, hc⟩ := at_lt (src := c0 :: r0) (i := j + 1) hjl
 have hcr : r0[j]? = some c := by simpa using hc
 have hT : (((c0 :: r0).drop 1).take (j + 1)).all numC = ((((c0 :: r0).drop 1).take j).all numC && numC c) := by
   obtain ⟨hl9, he9⟩ := List.getElem?_eq_some_iff.1 hcr
   rw [List.drop_succ_cons, List.drop_zero, List.take_succ_eq_append_getElem hl9, List.all_append, he9]; simp
 refine ewp_mid 19 (numW (c0 :: r0) && (((c0 :: r0).drop 1).take (j + 1)).all numC) (upd (upd (upd (upd (upd (upd SW.e0 0 (S (c0 :: r0))) 5 (.int .i64 (progS (nt1 (c0 :: r0))).2.2.2)) 8 (.int .i64 (progS (nt2 (c0 :: r0))).2.2.2)) 11 (.int .i64 (progS (nt3 (c0 :: r0))).2.2.2)) 14 (.int .i64 (progS (nt4 (c0 :: r0))).2.2.2)) 20 (.int .i64 ((j : Int) + 1))) ?_ ?_
 refine ewp_reg ?_
 refine ewl_run rfl (rn_move rfl) ?_
 refine ewl_run rfl (rn_move rfl) ?_
 refine ewl_split 174 rfl (fun h33 => ?_) (fun h33 => ?_)
 refine ewl_grd rfl rfl h33 ?_
 refine ewl_run rfl (rn_move rfl) ?_
 refine ewl_grd rfl rfl h33 ?_
 refine ewl_run rfl (rn_move rfl) ?_
 refine ewl_grd rfl rfl h33 ?_
 refine ewl_run rfl (rn_ixS rfl rfl un9 (by omega) (by simpa using hc)) ?_
 refine ewl_grd rfl rfl h33 ?_
 refine ewl_run rfl (rn_geI rfl rfl) ?_
 refine ewl_grd rfl rfl h33 ?_
 refine ewl_run rfl (rn_move rfl) ?_
 refine ewl_split 179 rfl (fun h34 => ?_) (fun h34 => ?_)
 refine ewl_grd rfl rfl h34 ?_
 refine ewl_run rfl (rn_move rfl) ?_
 refine ewl_grd rfl rfl h34 ?_
 refine ewl_run rfl (rn_move rfl) ?_
 refine ewl_grd rfl rfl h34 ?_
 refine ewl_run rfl (rn_ixS rfl rfl un9 (by omega) (by simpa using hc)) ?_
 refine ewl_grd rfl rfl h34 ?_
 refine ewl_run rfl (rn_leI rfl rfl) ?_
 refine ewl_grd rfl rfl h33 ?_
 refine ewl_run rfl (rn_pickt rfl h34 rfl) ?_
 refine ewl_grd rfl rfl h33 ?_
 refine ewl_run rfl (rn_move rfl) ?_
 refine ewl_split 185 rfl (fun h35 => ?_) (fun h35 => ?_)
 refine ewl_off rfl rfl rfl h35 ?_
 refine ewl_off rfl rfl rfl h35 ?_
 refine ewl_off rfl rfl rfl h35 ?_
 refine ewl_off rfl rfl rfl h35 ?_
 refine ewl_grd rfl rfl h33 ?_
 refine ewl_run rfl (rn_pickt rfl h35 rfl) ?_
 refine ewl_run rfl (rn_pickt rfl h33 rfl) ?_
 refine ewl_run rfl (rn_assign rfl) ?_
 refine ewl_nil ?_
 exact ⟨rfl, le_upd (le_upd (le_upd (le_upd (le_upd (le_upd (le_upd (le_e0 _) rfl) rfl) rfl) rfl) rfl) rfl) (bo (by rw [hT, ← Bool.and_assoc]; simp only [numC, digW, Bool.and_true, Bool.true_and, Bool.and_false, Bool.false_and, Bool.or_true, Bool.true_or, Bool.or_false, Bool.false_or, h33, h34, h35])), rfl, rfl⟩
 refine ewl_grd rfl rfl h35 ?_
 refine ewl_run rfl (rn_move rfl) ?_
 refine ewl_grd rfl rfl h35 ?_
 refine ewl_run rfl (rn_move rfl) ?_
 refine ewl_grd rfl rfl h35 ?_
 refine ewl_run rfl (rn_ixS rfl rfl un9 (by omega) (by simpa using hc)) ?_
 refine ewl_grd rfl rfl h35 ?_
 refine ewl_run rfl (rn_eqI rfl rfl) ?_
 refine ewl_grd rfl rfl h33 ?_
 refine ewl_run rfl (rn_pickf rfl h35 rfl) ?_
 refine ewl_run rfl (rn_pickt rfl h33 rfl) ?_
 refine ewl_run rfl (rn_assign rfl) ?_
 refine ewl_nil ?_
 exact ⟨rfl, le_upd (le_upd (le_upd (le_upd (le_upd (le_upd (le_upd (le_e0 _) rfl) rfl) rfl) rfl) rfl) rfl) (bo (by rw [hT, ← Bool.and_assoc]; simp only [numC, digW, Bool.and_true, Bool.true_and, Bool.and_false, Bool.false_and, Bool.or_true, Bool.true_or, Bool.or_false, Bool.false_or, h33, h34, h35])), rfl, rfl⟩
 refine ewl_off rfl rfl rfl h34 ?_
 refine ewl_off rfl rfl rfl h34 ?_
 refine ewl_off rfl rfl rfl h34 ?_
 refine ewl_off rfl rfl rfl h34 ?_
 refine ewl_grd rfl rfl h33 ?_
 refine ewl_run rfl (rn_pickf rfl h34 rfl) ?_
 refine ewl_grd rfl rfl h33 ?_
 refine ewl_run rfl (rn_move rfl) ?_
 refine ewl_grd rfl rfl rfl ?_
 refine ewl_run rfl (rn_move rfl) ?_
 refine ewl_grd rfl rfl rfl ?_
 refine ewl_run rfl (rn_move rfl) ?_
 refine ewl_grd rfl rfl rfl ?_
 refine ewl_run rfl (rn_ixS rfl rfl un9 (by omega) (by simpa using hc)) ?_
 refine ewl_grd rfl rfl rfl ?_
 refine ewl_run rfl (rn_eqI rfl rfl) ?_
 refine ewl_grd rfl rfl h33 ?_
 refine ewl_run rfl (rn_pickf rfl rfl rfl) ?_
 refine ewl_run rfl (rn_pickt rfl h33 rfl) ?_
 refine ewl_run rfl (rn_assign rfl) ?_
 refine ewl_nil ?_
 exact ⟨rfl, le_upd (le_upd (le_upd (le_upd (le_upd (le_upd (le_upd (le_e0 _) rfl) rfl) rfl) rfl) rfl) rfl) (bo (by rw [hT, ← Bool.and_assoc]; simp only [numC, digW, Bool.and_true, Bool.true_and, Bool.and_false, Bool.false_and, Bool.or_true, Bool.true_or, Bool.or_false, Bool.false_or, h33, h34])), rfl, rfl⟩
 refine ewl_off rfl rfl rfl h33 ?_
 refine ewl_off rfl rfl rfl h33 ?_
 refine ewl_off rfl rfl rfl h33 ?_
 refine ewl_off rfl rfl rfl h33 ?_
 refine ewl_off rfl rfl rfl h33 ?_
 refine ewl_offu rfl rfl rfl ?_
 refine ewl_offu rfl rfl rfl ?_
 refine ewl_offu rfl rfl rfl ?_
 refine ewl_offu rfl rfl rfl ?_
 refine ewl_off rfl rfl rfl h33 ?_
 refine ewl_off rfl rfl rfl h33 ?_
 refine ewl_offu rfl rfl rfl ?_
 refine ewl_offu rfl rfl rfl ?_
 refine ewl_offu rfl rfl rfl ?_
 refine ewl_offu rfl rfl rfl ?_
 refine ewl_off rfl rfl rfl h33 ?_
 refine ewl_run rfl (rn_pickf rfl h33 rfl) ?_
 refine ewl_run rfl (rn_assign rfl) ?_
 refine ewl_nil ?_
 exact ⟨rfl, le_upd (le_upd (le_upd (le_upd (le_upd (le_upd (le_upd (le_e0 _) rfl) rfl) rfl) rfl) rfl) rfl) (bo (by rw [hT, ← Bool.and_assoc]; simp only [numC, digW, Bool.and_true, Bool.true_and, Bool.and_false, Bool.false_and, Bool.or_true, Bool.true_or, Bool.or_false, Bool.false_or, h33])), rfl, rfl⟩
 refine blk_n ?_
 refine thn_n ?_
 refine ewp_reg ?_
 refine ewl_run rfl (rn_move rfl) ?_
 refine ewl_run rfl (rn_add rfl rfl ⟨by omega, by omega⟩) ?_
 refine ewl_run rfl (rn_assign rfl) ?_
 refine ewl_nil ?_
 refine lp_n ((c0 :: r0).length - (j + 1)) (upd (upd (upd (upd (upd (upd (upd SW.e0 0 (S (c0 :: r0))) 5 (.int .i64 (progS (nt1 (c0 :: r0))).2.2.2)) 8 (.int .i64 (progS (nt2 (c0 :: r0))).2.2.2)) 11 (.int .i64 (progS (nt3 (c0 :: r0))).2.2.2)) 14 (.int .i64 (progS (nt4 (c0 :: r0))).2.2.2)) 19 (.bool (numW (c0 :: r0) && (((c0 :: r0).drop 1).take (j + 1)).all numC))) 20 (.int .i64 (((j + 1 : Nat) : Int) + 1))) (by omega) (le_upd (le_upd (le_upd (le_upd (le_upd (le_upd (le_upd (le_e0 _) rfl) rfl) rfl) rfl) rfl) rfl) rfl) ⟨j + 1, rfl, rfl, rfl, by omega, hX⟩
 refine ewp_exit ?_
 refine thn_e ?_
 refine lp_e ?_
 refine blk_e ?_
 refine thn_n ?_
 refine ewp_seq ?_
 refine ewp_seq ?_
 have hje : ((c0 :: r0).drop 1).take j = (c0 :: r0).drop 1 := List.take_of_length_le (by simp only [List.drop_succ_cons, List.drop_zero, List.length_cons] at *; have := of_decide_eq_false h32; omega)
 refine ewp_reg ?_
 refine ewl_run rfl (rn_move rfl) ?_
 refine ewl_nil ?_
 refine thn_n ?_
 refine ewp_if rfl (fun h36 => ?_) (fun h36 => ?_)
 refine ewp_seq ?_
 refine ewp_reg ?_
 refine ewl_run rfl (rn_assign rfl) ?_
 refine ewl_nil ?_
 refine thn_n ?_
 refine ewp_ret ?_
 refine thn_r ?_
 refine fn_r (resv rfl (rv_tmp rfl)) ?_
 exact ⟨rfl, hX⟩
 refine ewp_skip ?_
 refine thn_n ?_
 refine ewp_seq ?_
 have hnn : (numW (c0 :: r0) && ((c0 :: r0).drop 1).all numC) = false := by have hh := h36; rw [hje] at hh; exact hh
 refine ewp_reg ?_
 refine ewl_run rfl (rn_move rfl) ?_
 refine ewl_ret rfl (en_call ent12 rfl rfl) (keptR_spec _ _) ?_
 rintro _ w17 ⟨rfl, hE13⟩
 replace hX := hX.trans hE13
 have sz13 := hE13.size
 refine ewl_run rfl (rn_not rfl) ?_
 refine ewl_run rfl (rn_move rfl) ?_
 refine ewl_split 196 rfl (fun h37 => ?_) (fun h37 => ?_)
 replace h37 := nott h37
 refine ewl_grd rfl rfl (congrArg Bool.not h37) ?_
 refine ewl_run rfl (rn_move rfl) ?_
 refine ewl_grd rfl rfl (congrArg Bool.not h37) ?_
 refine ewl_run rfl (rn_neS rfl rfl) ?_
 refine ewl_run rfl (rn_pickt rfl (congrArg Bool.not h37) rfl) ?_
 refine ewl_run rfl (rn_move rfl) ?_
 refine ewl_split 200 rfl (fun h38 => ?_) (fun h38 => ?_)
 refine ewl_grd rfl rfl h38 ?_
 refine ewl_run rfl (rn_move rfl) ?_
 refine ewl_grd rfl rfl h38 ?_
 refine ewl_run rfl (rn_ixS rfl rfl un9 (by omega) hc0) ?_
 refine ewl_grd rfl rfl h38 ?_
 refine ewl_run rfl (rn_neI rfl rfl) ?_
 refine ewl_run rfl (rn_pickt rfl h38 rfl) ?_
 refine ewl_run rfl (rn_assign rfl) ?_
 refine ewl_nil ?_
 refine thn_n ?_
 refine ewp_seq ?_
 refine ewp_split 21 rfl (fun h39 => ?_) (fun h39 => ?_)
 have hname : nameW (c0 :: r0) = true := by simp only [nameW, hd0, List.headD_cons, Bool.not_true, Bool.not_false, Bool.and_true, Bool.true_and, Bool.and_false, Bool.false_and, Bool.or_true, Bool.true_or, Bool.or_false, Bool.false_or, h37, h38, h39]
 obtain ⟨hE1, hE2, hE3, hE4⟩ := names_all hne hw hl4 hnn
 rw [hname] at hE1 hE2 hE3 hE4
 refine ewp_reg ?_
 refine ewl_run rfl (rn_move rfl) ?_
 refine ewl_run rfl (rn_eqI rfl rfl) ?_
 refine ewl_run rfl (rn_move rfl) ?_
 refine ewl_run rfl (rn_eqB un4 rfl rfl) ?_
 refine ewl_run rfl (rn_move rfl) ?_
 refine ewl_grd rfl rfl (by rw [show ((progS (nt1 (c0 :: r0))).2.2.2 == 0) = _ from hE1]; simp only [beq_self_eq_true, Bool.and_true, Bool.true_and, Bool.and_false, Bool.false_and, Bool.or_true, Bool.true_or, Bool.or_false, Bool.false_or, h37, h38, h39]) ?_
 refine ewl_run rfl (rn_move rfl) ?_
 refine ewl_grd rfl rfl (by rw [show ((progS (nt1 (c0 :: r0))).2.2.2 == 0) = _ from hE1]; simp only [beq_self_eq_true, Bool.and_true, Bool.true_and, Bool.and_false, Bool.false_and, Bool.or_true, Bool.true_or, Bool.or_false, Bool.false_or, h37, h38, h39]) ?_
 refine ewl_run rfl (rn_eqI rfl rfl) ?_
 refine ewl_grd rfl rfl (by rw [show ((progS (nt1 (c0 :: r0))).2.2.2 == 0) = _ from hE1]; simp only [beq_self_eq_true, Bool.and_true, Bool.true_and, Bool.and_false, Bool.false_and, Bool.or_true, Bool.true_or, Bool.or_false, Bool.false_or, h37, h38, h39]) ?_
 refine ewl_run rfl (rn_move rfl) ?_
 refine ewl_grd rfl rfl (by rw [show ((progS (nt1 (c0 :: r0))).2.2.2 == 0) = _ from hE1]; simp only [beq_self_eq_true, Bool.and_true, Bool.true_and, Bool.and_false, Bool.false_and, Bool.or_true, Bool.true_or, Bool.or_false, Bool.false_or, h37, h38, h39]) ?_
 refine ewl_run rfl (rn_move rfl) ?_
 refine ewl_off rfl rfl rfl h39 ?_
 refine ewl_off rfl rfl rfl h39 ?_
 refine ewl_grd rfl rfl (by rw [show ((progS (nt1 (c0 :: r0))).2.2.2 == 0) = _ from hE1]; simp only [beq_self_eq_true, Bool.and_true, Bool.true_and, Bool.and_false, Bool.false_and, Bool.or_true, Bool.true_or, Bool.or_false, Bool.false_or, h37, h38, h39]) ?_
 refine ewl_run rfl (rn_pickt rfl h39 rfl) ?_
 refine ewl_grd rfl rfl (by rw [show ((progS (nt1 (c0 :: r0))).2.2.2 == 0) = _ from hE1]; simp only [beq_self_eq_true, Bool.and_true, Bool.true_and, Bool.and_false, Bool.false_and, Bool.or_true, Bool.true_or, Bool.or_false, Bool.false_or, h37, h38, h39]) ?_
 refine ewl_run rfl (rn_eqB un4 rfl rfl) ?_
 refine ewl_run rfl (rn_pickt rfl (by rw [show ((progS (nt1 (c0 :: r0))).2.2.2 == 0) = _ from hE1]; simp only [beq_self_eq_true, Bool.and_true, Bool.true_and, Bool.and_false, Bool.false_and, Bool.or_true, Bool.true_or, Bool.or_false, Bool.false_or, h37, h38, h39]) rfl) ?_
 refine ewl_run rfl (rn_move rfl) ?_
 refine ewl_grd rfl rfl (by rw [show ((progS (nt2 (c0 :: r0))).2.2.2 == 0) = _ from hE2]; simp only [beq_self_eq_true, Bool.and_true, Bool.true_and, Bool.and_false, Bool.false_and, Bool.or_true, Bool.true_or, Bool.or_false, Bool.false_or, h37, h38, h39]) ?_
 refine ewl_run rfl (rn_move rfl) ?_
 refine ewl_grd rfl rfl (by rw [show ((progS (nt2 (c0 :: r0))).2.2.2 == 0) = _ from hE2]; simp only [beq_self_eq_true, Bool.and_true, Bool.true_and, Bool.and_false, Bool.false_and, Bool.or_true, Bool.true_or, Bool.or_false, Bool.false_or, h37, h38, h39]) ?_
 refine ewl_run rfl (rn_eqI rfl rfl) ?_
 refine ewl_grd rfl rfl (by rw [show ((progS (nt2 (c0 :: r0))).2.2.2 == 0) = _ from hE2]; simp only [beq_self_eq_true, Bool.and_true, Bool.true_and, Bool.and_false, Bool.false_and, Bool.or_true, Bool.true_or, Bool.or_false, Bool.false_or, h37, h38, h39]) ?_
 refine ewl_run rfl (rn_move rfl) ?_
 refine ewl_grd rfl rfl (by rw [show ((progS (nt2 (c0 :: r0))).2.2.2 == 0) = _ from hE2]; simp only [beq_self_eq_true, Bool.and_true, Bool.true_and, Bool.and_false, Bool.false_and, Bool.or_true, Bool.true_or, Bool.or_false, Bool.false_or, h37, h38, h39]) ?_
 refine ewl_run rfl (rn_eqB un4 rfl rfl) ?_
 refine ewl_run rfl (rn_pickt rfl (by rw [show ((progS (nt2 (c0 :: r0))).2.2.2 == 0) = _ from hE2]; simp only [beq_self_eq_true, Bool.and_true, Bool.true_and, Bool.and_false, Bool.false_and, Bool.or_true, Bool.true_or, Bool.or_false, Bool.false_or, h37, h38, h39]) rfl) ?_
 refine ewl_run rfl (rn_move rfl) ?_
 refine ewl_grd rfl rfl (by rw [show ((progS (nt3 (c0 :: r0))).2.2.2 == 0) = _ from hE3]; simp only [beq_self_eq_true, Bool.and_true, Bool.true_and, Bool.and_false, Bool.false_and, Bool.or_true, Bool.true_or, Bool.or_false, Bool.false_or, h37, h38, h39]) ?_
 refine ewl_run rfl (rn_move rfl) ?_
 refine ewl_grd rfl rfl (by rw [show ((progS (nt3 (c0 :: r0))).2.2.2 == 0) = _ from hE3]; simp only [beq_self_eq_true, Bool.and_true, Bool.true_and, Bool.and_false, Bool.false_and, Bool.or_true, Bool.true_or, Bool.or_false, Bool.false_or, h37, h38, h39]) ?_
 refine ewl_run rfl (rn_eqI rfl rfl) ?_
 refine ewl_grd rfl rfl (by rw [show ((progS (nt3 (c0 :: r0))).2.2.2 == 0) = _ from hE3]; simp only [beq_self_eq_true, Bool.and_true, Bool.true_and, Bool.and_false, Bool.false_and, Bool.or_true, Bool.true_or, Bool.or_false, Bool.false_or, h37, h38, h39]) ?_
 refine ewl_run rfl (rn_move rfl) ?_
 refine ewl_grd rfl rfl (by rw [show ((progS (nt3 (c0 :: r0))).2.2.2 == 0) = _ from hE3]; simp only [beq_self_eq_true, Bool.and_true, Bool.true_and, Bool.and_false, Bool.false_and, Bool.or_true, Bool.true_or, Bool.or_false, Bool.false_or, h37, h38, h39]) ?_
 refine ewl_run rfl (rn_eqB un4 rfl rfl) ?_
 refine ewl_run rfl (rn_pickt rfl (by rw [show ((progS (nt3 (c0 :: r0))).2.2.2 == 0) = _ from hE3]; simp only [beq_self_eq_true, Bool.and_true, Bool.true_and, Bool.and_false, Bool.false_and, Bool.or_true, Bool.true_or, Bool.or_false, Bool.false_or, h37, h38, h39]) rfl) ?_
 refine ewl_run rfl (rn_assign rfl) ?_
 refine ewl_nil ?_
 refine thn_n ?_
 refine ewp_ret ?_
 refine fn_r (resv rfl (rv_tmp rfl)) ?_
 exact ⟨congrArg Value.bool (by rw [show ((progS (nt4 (c0 :: r0))).2.2.2 == 0) = _ from hE4]; simp only [beq_self_eq_true, Bool.and_true, Bool.true_and, Bool.and_false, Bool.false_and, Bool.or_true, Bool.true_or, Bool.or_false, Bool.false_or, h37, h38, h39]), hX⟩
 have hname : nameW (c0 :: r0) = false := by simp only [nameW, hd0, List.headD_cons, Bool.not_true, Bool.not_false, Bool.and_true, Bool.true_and, Bool.and_false, Bool.false_and, Bool.or_true, Bool.true_or, Bool.or_false, Bool.false_or, h37, h38, h39]
 obtain ⟨hE1, hE2, hE3, hE4⟩ := names_all hne hw hl4 hnn
 rw [hname] at hE1 hE2 hE3 hE4
 refine ewp_reg ?_
 refine ewl_run rfl (rn_move rfl) ?_
 refine ewl_run rfl (rn_eqI rfl rfl) ?_
 refine ewl_run rfl (rn_move rfl) ?_
 refine ewl_run rfl (rn_eqB un4 rfl rfl) ?_
 refine ewl_run rfl (rn_move rfl) ?_
 refine ewl_grd rfl rfl (by rw [show ((progS (nt1 (c0 :: r0))).2.2.2 == 0) = _ from hE1]; simp only [beq_self_eq_true, Bool.and_true, Bool.true_and, Bool.and_false, Bool.false_and, Bool.or_true, Bool.true_or, Bool.or_false, Bool.false_or, h37, h38, h39]) ?_
 refine ewl_run rfl (rn_move rfl) ?_
 refine ewl_grd rfl rfl (by rw [show ((progS (nt1 (c0 :: r0))).2.2.2 == 0) = _ from hE1]; simp only [beq_self_eq_true, Bool.and_true, Bool.true_and, Bool.and_false, Bool.false_and, Bool.or_true, Bool.true_or, Bool.or_false, Bool.false_or, h37, h38, h39]) ?_
 refine ewl_run rfl (rn_eqI rfl rfl) ?_
 refine ewl_grd rfl rfl (by rw [show ((progS (nt1 (c0 :: r0))).2.2.2 == 0) = _ from hE1]; simp only [beq_self_eq_true, Bool.and_true, Bool.true_and, Bool.and_false, Bool.false_and, Bool.or_true, Bool.true_or, Bool.or_false, Bool.false_or, h37, h38, h39]) ?_
 refine ewl_run rfl (rn_move rfl) ?_
 refine ewl_grd rfl rfl (by rw [show ((progS (nt1 (c0 :: r0))).2.2.2 == 0) = _ from hE1]; simp only [beq_self_eq_true, Bool.and_true, Bool.true_and, Bool.and_false, Bool.false_and, Bool.or_true, Bool.true_or, Bool.or_false, Bool.false_or, h37, h38, h39]) ?_
 refine ewl_run rfl (rn_move rfl) ?_
 refine ewl_grd rfl rfl h39 ?_
 refine ewl_run rfl (rn_move rfl) ?_
 refine ewl_grd rfl rfl h39 ?_
 refine ewl_run rfl (rn_eqS rfl rfl) ?_
 refine ewl_grd rfl rfl (by rw [show ((progS (nt1 (c0 :: r0))).2.2.2 == 0) = _ from hE1]; simp only [beq_self_eq_true, Bool.and_true, Bool.true_and, Bool.and_false, Bool.false_and, Bool.or_true, Bool.true_or, Bool.or_false, Bool.false_or, h37, h38, h39]) ?_
 refine ewl_run rfl (rn_pickf rfl h39 rfl) ?_
 refine ewl_grd rfl rfl (by rw [show ((progS (nt1 (c0 :: r0))).2.2.2 == 0) = _ from hE1]; simp only [beq_self_eq_true, Bool.and_true, Bool.true_and, Bool.and_false, Bool.false_and, Bool.or_true, Bool.true_or, Bool.or_false, Bool.false_or, h37, h38, h39]) ?_
 refine ewl_run rfl (rn_eqB un4 rfl rfl) ?_
 refine ewl_run rfl (rn_pickt rfl (by rw [show ((progS (nt1 (c0 :: r0))).2.2.2 == 0) = _ from hE1]; simp only [beq_self_eq_true, Bool.and_true, Bool.true_and, Bool.and_false, Bool.false_and, Bool.or_true, Bool.true_or, Bool.or_false, Bool.false_or, h37, h38, h39]) rfl) ?_
 refine ewl_run rfl (rn_move rfl) ?_
 refine ewl_grd rfl rfl (by rw [show ((progS (nt2 (c0 :: r0))).2.2.2 == 0) = _ from hE2]; simp only [beq_self_eq_true, Bool.and_true, Bool.true_and, Bool.and_false, Bool.false_and, Bool.or_true, Bool.true_or, Bool.or_false, Bool.false_or, h37, h38, h39]) ?_
 refine ewl_run rfl (rn_move rfl) ?_
 refine ewl_grd rfl rfl (by rw [show ((progS (nt2 (c0 :: r0))).2.2.2 == 0) = _ from hE2]; simp only [beq_self_eq_true, Bool.and_true, Bool.true_and, Bool.and_false, Bool.false_and, Bool.or_true, Bool.true_or, Bool.or_false, Bool.false_or, h37, h38, h39]) ?_
 refine ewl_run rfl (rn_eqI rfl rfl) ?_
 refine ewl_grd rfl rfl (by rw [show ((progS (nt2 (c0 :: r0))).2.2.2 == 0) = _ from hE2]; simp only [beq_self_eq_true, Bool.and_true, Bool.true_and, Bool.and_false, Bool.false_and, Bool.or_true, Bool.true_or, Bool.or_false, Bool.false_or, h37, h38, h39]) ?_
 refine ewl_run rfl (rn_move rfl) ?_
 refine ewl_grd rfl rfl (by rw [show ((progS (nt2 (c0 :: r0))).2.2.2 == 0) = _ from hE2]; simp only [beq_self_eq_true, Bool.and_true, Bool.true_and, Bool.and_false, Bool.false_and, Bool.or_true, Bool.true_or, Bool.or_false, Bool.false_or, h37, h38, h39]) ?_
 refine ewl_run rfl (rn_eqB un4 rfl rfl) ?_
 refine ewl_run rfl (rn_pickt rfl (by rw [show ((progS (nt2 (c0 :: r0))).2.2.2 == 0) = _ from hE2]; simp only [beq_self_eq_true, Bool.and_true, Bool.true_and, Bool.and_false, Bool.false_and, Bool.or_true, Bool.true_or, Bool.or_false, Bool.false_or, h37, h38, h39]) rfl) ?_
 refine ewl_run rfl (rn_move rfl) ?_
 refine ewl_grd rfl rfl (by rw [show ((progS (nt3 (c0 :: r0))).2.2.2 == 0) = _ from hE3]; simp only [beq_self_eq_true, Bool.and_true, Bool.true_and, Bool.and_false, Bool.false_and, Bool.or_true, Bool.true_or, Bool.or_false, Bool.false_or, h37, h38, h39]) ?_
 refine ewl_run rfl (rn_move rfl) ?_
 refine ewl_grd rfl rfl (by rw [show ((progS (nt3 (c0 :: r0))).2.2.2 == 0) = _ from hE3]; simp only [beq_self_eq_true, Bool.and_true, Bool.true_and, Bool.and_false, Bool.false_and, Bool.or_true, Bool.true_or, Bool.or_false, Bool.false_or, h37, h38, h39]) ?_
 refine ewl_run rfl (rn_eqI rfl rfl) ?_
 refine ewl_grd rfl rfl (by rw [show ((progS (nt3 (c0 :: r0))).2.2.2 == 0) = _ from hE3]; simp only [beq_self_eq_true, Bool.and_true, Bool.true_and, Bool.and_false, Bool.false_and, Bool.or_true, Bool.true_or, Bool.or_false, Bool.false_or, h37, h38, h39]) ?_
 refine ewl_run rfl (rn_move rfl) ?_
 refine ewl_grd rfl rfl (by rw [show ((progS (nt3 (c0 :: r0))).2.2.2 == 0) = _ from hE3]; simp only [beq_self_eq_true, Bool.and_true, Bool.true_and, Bool.and_false, Bool.false_and, Bool.or_true, Bool.true_or, Bool.or_false, Bool.false_or, h37, h38, h39]) ?_
 refine ewl_run rfl (rn_eqB un4 rfl rfl) ?_
 refine ewl_run rfl (rn_pickt rfl (by rw [show ((progS (nt3 (c0 :: r0))).2.2.2 == 0) = _ from hE3]; simp only [beq_self_eq_true, Bool.and_true, Bool.true_and, Bool.and_false, Bool.false_and, Bool.or_true, Bool.true_or, Bool.or_false, Bool.false_or, h37, h38, h39]) rfl) ?_
 refine ewl_run rfl (rn_assign rfl) ?_
 refine ewl_nil ?_
 refine thn_n ?_
 refine ewp_ret ?_
 refine fn_r (resv rfl (rv_tmp rfl)) ?_
 exact ⟨congrArg Value.bool (by rw [show ((progS (nt4 (c0 :: r0))).2.2.2 == 0) = _ from hE4]; simp only [beq_self_eq_true, Bool.and_true, Bool.true_and, Bool.and_false, Bool.false_and, Bool.or_true, Bool.true_or, Bool.or_false, Bool.false_or, h37, h38, h39]), hX⟩
 refine ewl_off rfl rfl rfl h38 ?_
 refine ewl_off rfl rfl rfl h38 ?_
 refine ewl_off rfl rfl rfl h38 ?_
 refine ewl_run rfl (rn_pickf rfl h38 rfl) ?_
 refine ewl_run rfl (rn_assign rfl) ?_
 refine ewl_nil ?_
 refine thn_n ?_
 refine ewp_seq ?_
 have hname : nameW (c0 :: r0) = false := by simp only [nameW, hd0, List.headD_cons, Bool.not_true, Bool.not_false, Bool.and_true, Bool.true_and, Bool.and_false, Bool.false_and, Bool.or_true, Bool.true_or, Bool.or_false, Bool.false_or, h37, h38]
 obtain ⟨hE1, hE2, hE3, hE4⟩ := names_all hne hw hl4 hnn
 rw [hname] at hE1 hE2 hE3 hE4
 refine ewp_reg ?_
 refine ewl_run rfl (rn_move rfl) ?_
 refine ewl_run rfl (rn_eqI rfl rfl) ?_
 refine ewl_run rfl (rn_move rfl) ?_
 refine ewl_run rfl (rn_eqB un4 rfl rfl) ?_
 refine ewl_run rfl (rn_move rfl) ?_
 refine ewl_grd rfl rfl (by rw [show ((progS (nt1 (c0 :: r0))).2.2.2 == 0) = _ from hE1]; simp only [beq_self_eq_true, Bool.and_true, Bool.true_and, Bool.and_false, Bool.false_and, Bool.or_true, Bool.true_or, Bool.or_false, Bool.false_or, h37, h38]) ?_
 refine ewl_run rfl (rn_move rfl) ?_
 refine ewl_grd rfl rfl (by rw [show ((progS (nt1 (c0 :: r0))).2.2.2 == 0) = _ from hE1]; simp only [beq_self_eq_true, Bool.and_true, Bool.true_and, Bool.and_false, Bool.false_and, Bool.or_true, Bool.true_or, Bool.or_false, Bool.false_or, h37, h38]) ?_
 refine ewl_run rfl (rn_eqI rfl rfl) ?_
 refine ewl_grd rfl rfl (by rw [show ((progS (nt1 (c0 :: r0))).2.2.2 == 0) = _ from hE1]; simp only [beq_self_eq_true, Bool.and_true, Bool.true_and, Bool.and_false, Bool.false_and, Bool.or_true, Bool.true_or, Bool.or_false, Bool.false_or, h37, h38]) ?_
 refine ewl_run rfl (rn_move rfl) ?_
 refine ewl_grd rfl rfl (by rw [show ((progS (nt1 (c0 :: r0))).2.2.2 == 0) = _ from hE1]; simp only [beq_self_eq_true, Bool.and_true, Bool.true_and, Bool.and_false, Bool.false_and, Bool.or_true, Bool.true_or, Bool.or_false, Bool.false_or, h37, h38]) ?_
 refine ewl_run rfl (rn_move rfl) ?_
 refine ewl_grd rfl rfl rfl ?_
 refine ewl_run rfl (rn_move rfl) ?_
 refine ewl_grd rfl rfl rfl ?_
 refine ewl_run rfl (rn_eqS rfl rfl) ?_
 refine ewl_grd rfl rfl (by rw [show ((progS (nt1 (c0 :: r0))).2.2.2 == 0) = _ from hE1]; simp only [beq_self_eq_true, Bool.and_true, Bool.true_and, Bool.and_false, Bool.false_and, Bool.or_true, Bool.true_or, Bool.or_false, Bool.false_or, h37, h38]) ?_
 refine ewl_run rfl (rn_pickf rfl rfl rfl) ?_
 refine ewl_grd rfl rfl (by rw [show ((progS (nt1 (c0 :: r0))).2.2.2 == 0) = _ from hE1]; simp only [beq_self_eq_true, Bool.and_true, Bool.true_and, Bool.and_false, Bool.false_and, Bool.or_true, Bool.true_or, Bool.or_false, Bool.false_or, h37, h38]) ?_
 refine ewl_run rfl (rn_eqB un4 rfl rfl) ?_
 refine ewl_run rfl (rn_pickt rfl (by rw [show ((progS (nt1 (c0 :: r0))).2.2.2 == 0) = _ from hE1]; simp only [beq_self_eq_true, Bool.and_true, Bool.true_and, Bool.and_false, Bool.false_and, Bool.or_true, Bool.true_or, Bool.or_false, Bool.false_or, h37, h38]) rfl) ?_
 refine ewl_run rfl (rn_move rfl) ?_
 refine ewl_grd rfl rfl (by rw [show ((progS (nt2 (c0 :: r0))).2.2.2 == 0) = _ from hE2]; simp only [beq_self_eq_true, Bool.and_true, Bool.true_and, Bool.and_false, Bool.false_and, Bool.or_true, Bool.true_or, Bool.or_false, Bool.false_or, h37, h38]) ?_
 refine ewl_run rfl (rn_move rfl) ?_
 refine ewl_grd rfl rfl (by rw [show ((progS (nt2 (c0 :: r0))).2.2.2 == 0) = _ from hE2]; simp only [beq_self_eq_true, Bool.and_true, Bool.true_and, Bool.and_false, Bool.false_and, Bool.or_true, Bool.true_or, Bool.or_false, Bool.false_or, h37, h38]) ?_
 refine ewl_run rfl (rn_eqI rfl rfl) ?_
 refine ewl_grd rfl rfl (by rw [show ((progS (nt2 (c0 :: r0))).2.2.2 == 0) = _ from hE2]; simp only [beq_self_eq_true, Bool.and_true, Bool.true_and, Bool.and_false, Bool.false_and, Bool.or_true, Bool.true_or, Bool.or_false, Bool.false_or, h37, h38]) ?_
 refine ewl_run rfl (rn_move rfl) ?_
 refine ewl_grd rfl rfl (by rw [show ((progS (nt2 (c0 :: r0))).2.2.2 == 0) = _ from hE2]; simp only [beq_self_eq_true, Bool.and_true, Bool.true_and, Bool.and_false, Bool.false_and, Bool.or_true, Bool.true_or, Bool.or_false, Bool.false_or, h37, h38]) ?_
 refine ewl_run rfl (rn_eqB un4 rfl rfl) ?_
 refine ewl_run rfl (rn_pickt rfl (by rw [show ((progS (nt2 (c0 :: r0))).2.2.2 == 0) = _ from hE2]; simp only [beq_self_eq_true, Bool.and_true, Bool.true_and, Bool.and_false, Bool.false_and, Bool.or_true, Bool.true_or, Bool.or_false, Bool.false_or, h37, h38]) rfl) ?_
 refine ewl_run rfl (rn_move rfl) ?_
 refine ewl_grd rfl rfl (by rw [show ((progS (nt3 (c0 :: r0))).2.2.2 == 0) = _ from hE3]; simp only [beq_self_eq_true, Bool.and_true, Bool.true_and, Bool.and_false, Bool.false_and, Bool.or_true, Bool.true_or, Bool.or_false, Bool.false_or, h37, h38]) ?_
 refine ewl_run rfl (rn_move rfl) ?_
 refine ewl_grd rfl rfl (by rw [show ((progS (nt3 (c0 :: r0))).2.2.2 == 0) = _ from hE3]; simp only [beq_self_eq_true, Bool.and_true, Bool.true_and, Bool.and_false, Bool.false_and, Bool.or_true, Bool.true_or, Bool.or_false, Bool.false_or, h37, h38]) ?_
 refine ewl_run rfl (rn_eqI rfl rfl) ?_
 refine ewl_grd rfl rfl (by rw [show ((progS (nt3 (c0 :: r0))).2.2.2 == 0) = _ from hE3]; simp only [beq_self_eq_true, Bool.and_true, Bool.true_and, Bool.and_false, Bool.false_and, Bool.or_true, Bool.true_or, Bool.or_false, Bool.false_or, h37, h38]) ?_
 refine ewl_run rfl (rn_move rfl) ?_
 refine ewl_grd rfl rfl (by rw [show ((progS (nt3 (c0 :: r0))).2.2.2 == 0) = _ from hE3]; simp only [beq_self_eq_true, Bool.and_true, Bool.true_and, Bool.and_false, Bool.false_and, Bool.or_true, Bool.true_or, Bool.or_false, Bool.false_or, h37, h38]) ?_
 refine ewl_run rfl (rn_eqB un4 rfl rfl) ?_
 refine ewl_run rfl (rn_pickt rfl (by rw [show ((progS (nt3 (c0 :: r0))).2.2.2 == 0) = _ from hE3]; simp only [beq_self_eq_true, Bool.and_true, Bool.true_and, Bool.and_false, Bool.false_and, Bool.or_true, Bool.true_or, Bool.or_false, Bool.false_or, h37, h38]) rfl) ?_
 refine ewl_run rfl (rn_assign rfl) ?_
 refine ewl_nil ?_
 refine thn_n ?_
 refine ewp_ret ?_
 refine fn_r (resv rfl (rv_tmp rfl)) ?_
 exact ⟨congrArg Value.bool (by rw [show ((progS (nt4 (c0 :: r0))).2.2.2 == 0) = _ from hE4]; simp only [beq_self_eq_true, Bool.and_true, Bool.true_and, Bool.and_false, Bool.false_and, Bool.or_true, Bool.true_or, Bool.or_false, Bool.false_or, h37, h38]), hX⟩
 replace h37 := notf h37
 refine ewl_off rfl rfl rfl (congrArg Bool.not h37) ?_
 refine ewl_off rfl rfl rfl (congrArg Bool.not h37) ?_
 refine ewl_run rfl (rn_pickf rfl (congrArg Bool.not h37) rfl) ?_
 refine ewl_run rfl (rn_move rfl) ?_
 refine ewl_off rfl rfl rfl rfl ?_
 refine ewl_off rfl rfl rfl rfl ?_
 refine ewl_off rfl rfl rfl rfl ?_
 refine ewl_run rfl (rn_pickf rfl rfl rfl) ?_
 refine ewl_run rfl (rn_assign rfl) ?_
 refine ewl_nil ?_
 refine thn_n ?_
 refine ewp_seq ?_
 have hname : nameW (c0 :: r0) = false := by simp only [nameW, hd0, List.headD_cons, Bool.not_true, Bool.not_false, Bool.and_true, Bool.true_and, Bool.and_false, Bool.false_and, Bool.or_true, Bool.true_or, Bool.or_false, Bool.false_or, h37]
 obtain ⟨hE1, hE2, hE3, hE4⟩ := names_all hne hw hl4 hnn
 rw [hname] at hE1 hE2 hE3 hE4
 refine ewp_reg ?_
 refine ewl_run rfl (rn_move rfl) ?_
 refine ewl_run rfl (rn_eqI rfl rfl) ?_
 refine ewl_run rfl (rn_move rfl) ?_
 refine ewl_run rfl (rn_eqB un4 rfl rfl) ?_
 refine ewl_run rfl (rn_move rfl) ?_
 refine ewl_grd rfl rfl (by rw [show ((progS (nt1 (c0 :: r0))).2.2.2 == 0) = _ from hE1]; simp only [beq_self_eq_true, Bool.and_true, Bool.true_and, Bool.and_false, Bool.false_and, Bool.or_true, Bool.true_or, Bool.or_false, Bool.false_or, h37]) ?_
 refine ewl_run rfl (rn_move rfl) ?_
 refine ewl_grd rfl rfl (by rw [show ((progS (nt1 (c0 :: r0))).2.2.2 == 0) = _ from hE1]; simp only [beq_self_eq_true, Bool.and_true, Bool.true_and, Bool.and_false, Bool.false_and, Bool.or_true, Bool.true_or, Bool.or_false, Bool.false_or, h37]) ?_
 refine ewl_run rfl (rn_eqI rfl rfl) ?_
 refine ewl_grd rfl rfl (by rw [show ((progS (nt1 (c0 :: r0))).2.2.2 == 0) = _ from hE1]; simp only [beq_self_eq_true, Bool.and_true, Bool.true_and, Bool.and_false, Bool.false_and, Bool.or_true, Bool.true_or, Bool.or_false, Bool.false_or, h37]) ?_
 refine ewl_run rfl (rn_move rfl) ?_
 refine ewl_grd rfl rfl (by rw [show ((progS (nt1 (c0 :: r0))).2.2.2 == 0) = _ from hE1]; simp only [beq_self_eq_true, Bool.and_true, Bool.true_and, Bool.and_false, Bool.false_and, Bool.or_true, Bool.true_or, Bool.or_false, Bool.false_or, h37]) ?_
 refine ewl_run rfl (rn_move rfl) ?_
 refine ewl_grd rfl rfl rfl ?_
 refine ewl_run rfl (rn_move rfl) ?_
 refine ewl_grd rfl rfl rfl ?_
 refine ewl_run rfl (rn_eqS rfl rfl) ?_
 refine ewl_grd rfl rfl (by rw [show ((progS (nt1 (c0 :: r0))).2.2.2 == 0) = _ from hE1]; simp only [beq_self_eq_true, Bool.and_true, Bool.true_and, Bool.and_false, Bool.false_and, Bool.or_true, Bool.true_or, Bool.or_false, Bool.false_or, h37]) ?_
 refine ewl_run rfl (rn_pickf rfl rfl rfl) ?_
 refine ewl_grd rfl rfl (by rw [show ((progS (nt1 (c0 :: r0))).2.2.2 == 0) = _ from hE1]; simp only [beq_self_eq_true, Bool.and_true, Bool.true_and, Bool.and_false, Bool.false_and, Bool.or_true, Bool.true_or, Bool.or_false, Bool.false_or, h37]) ?_
 refine ewl_run rfl (rn_eqB un4 rfl rfl) ?_
 refine ewl_run rfl (rn_pickt rfl (by rw [show ((progS (nt1 (c0 :: r0))).2.2.2 == 0) = _ from hE1]; simp only [beq_self_eq_true, Bool.and_true, Bool.true_and, Bool.and_false, Bool.false_and, Bool.or_true, Bool.true_or, Bool.or_false, Bool.false_or, h37]) rfl) ?_
 refine ewl_run rfl (rn_move rfl) ?_
 refine ewl_grd rfl rfl (by rw [show ((progS (nt2 (c0 :: r0))).2.2.2 == 0) = _ from hE2]; simp only [beq_self_eq_true, Bool.and_true, Bool.true_and, Bool.and_false, Bool.false_and, Bool.or_true, Bool.true_or, Bool.or_false, Bool.false_or, h37]) ?_
 refine ewl_run rfl (rn_move rfl) ?_
 refine ewl_grd rfl rfl (by rw [show ((progS (nt2 (c0 :: r0))).2.2.2 == 0) = _ from hE2]; simp only [beq_self_eq_true, Bool.and_true, Bool.true_and, Bool.and_false, Bool.false_and, Bool.or_true, Bool.true_or, Bool.or_false, Bool.false_or, h37]) ?_
 refine ewl_run rfl (rn_eqI rfl rfl) ?_
 refine ewl_grd rfl rfl (by rw [show ((progS (nt2 (c0 :: r0))).2.2.2 == 0) = _ from hE2]; simp only [beq_self_eq_true, Bool.and_true, Bool.true_and, Bool.and_false, Bool.false_and, Bool.or_true, Bool.true_or, Bool.or_false, Bool.false_or, h37]) ?_
 refine ewl_run rfl (rn_move rfl) ?_
 refine ewl_grd rfl rfl (by rw [show ((progS (nt2 (c0 :: r0))).2.2.2 == 0) = _ from hE2]; simp only [beq_self_eq_true, Bool.and_true, Bool.true_and, Bool.and_false, Bool.false_and, Bool.or_true, Bool.true_or, Bool.or_false, Bool.false_or, h37]) ?_
 refine ewl_run rfl (rn_eqB un4 rfl rfl) ?_
 refine ewl_run rfl (rn_pickt rfl (by rw [show ((progS (nt2 (c0 :: r0))).2.2.2 == 0) = _ from hE2]; simp only [beq_self_eq_true, Bool.and_true, Bool.true_and, Bool.and_false, Bool.false_and, Bool.or_true, Bool.true_or, Bool.or_false, Bool.false_or, h37]) rfl) ?_
 refine ewl_run rfl (rn_move rfl) ?_
 refine ewl_grd rfl rfl (by rw [show ((progS (nt3 (c0 :: r0))).2.2.2 == 0) = _ from hE3]; simp only [beq_self_eq_true, Bool.and_true, Bool.true_and, Bool.and_false, Bool.false_and, Bool.or_true, Bool.true_or, Bool.or_false, Bool.false_or, h37]) ?_
 refine ewl_run rfl (rn_move rfl) ?_
 refine ewl_grd rfl rfl (by rw [show ((progS (nt3 (c0 :: r0))).2.2.2 == 0) = _ from hE3]; simp only [beq_self_eq_true, Bool.and_true, Bool.true_and, Bool.and_false, Bool.false_and, Bool.or_true, Bool.true_or, Bool.or_false, Bool.false_or, h37]) ?_
 refine ewl_run rfl (rn_eqI rfl rfl) ?_
 refine ewl_grd rfl rfl (by rw [show ((progS (nt3 (c0 :: r0))).2.2.2 == 0) = _ from hE3]; simp only [beq_self_eq_true, Bool.and_true, Bool.true_and, Bool.and_false, Bool.false_and, Bool.or_true, Bool.true_or, Bool.or_false, Bool.false_or, h37]) ?_
 refine ewl_run rfl (rn_move rfl) ?_
 refine ewl_grd rfl rfl (by rw [show ((progS (nt3 (c0 :: r0))).2.2.2 == 0) = _ from hE3]; simp only [beq_self_eq_true, Bool.and_true, Bool.true_and, Bool.and_false, Bool.false_and, Bool.or_true, Bool.true_or, Bool.or_false, Bool.false_or, h37]) ?_
 refine ewl_run rfl (rn_eqB un4 rfl rfl) ?_
 refine ewl_run rfl (rn_pickt rfl (by rw [show ((progS (nt3 (c0 :: r0))).2.2.2 == 0) = _ from hE3]; simp only [beq_self_eq_true, Bool.and_true, Bool.true_and, Bool.and_false, Bool.false_and, Bool.or_true, Bool.true_or, Bool.or_false, Bool.false_or, h37]) rfl) ?_
 refine ewl_run rfl (rn_assign rfl) ?_
 refine ewl_nil ?_
 refine thn_n ?_
 refine ewp_ret ?_
 refine fn_r (resv rfl (rv_tmp rfl)) ?_
 exact ⟨congrArg Value.bool (by rw [show ((progS (nt4 (c0 :: r0))).2.2.2 == 0) = _ from hE4]; simp only [beq_self_eq_true, Bool.and_true, Bool.true_and, Bool.and_false, Bool.false_and, Bool.or_true, Bool.true_or, Bool.or_false, Bool.false_or, h37]), hX⟩
end Go.Proofs.YthjdnhnbgjgbkaaGreatDoor
namespace Go.Proofs.YthjdnhnbgjgbkaaGreatDoor.Names
open Go.SW Go.SP Go.RowKit Go.Lib Go.ChangeShapes Go.WideShapes Go.ChangeAt Go.ChangeMaps
set_option maxRecDepth 100000 in
theorem contract (H : Type) (enc : TypeId × Value → H) (W : World) (base : Nat) (args : Array Value) (ds gs : List (DataW H)) (before : List MemPlace)
   (hval : ∀ (j : Nat) t v, Tryz.f5.params[j]? = some t → args[j]? = some v → Value.okWide Tryz.prog W .any base t v)
   (hW : DataW.Whole enc Tryz.prog Tryz.f5.params.toList Rows.parseNamesSpec.vars false W args.toList ds gs before) (hL : laidMetH Tryz.prog Rows.parseNamesRow.laid W) (hS : W.ShapedOpen Tryz.prog) :
   Calls Tryz.prog 5 args W fun e W' => ∃ v, e = .returned v ∧ Rows.parseNamesSpec.post enc Tryz.prog Tryz.f5 false true false false W args v W' := by
 have hW' := hW
 obtain ⟨p, q, hA0, hV, rfl, hfz, hnd⟩ := hW
 have hA : DataW.TrodAll enc Tryz.prog W 0 (fun _ => true) true Tryz.f5.params.toList args.toList ds p := hA0
 rw [Tryz.params5] at hA hval
 obtain ⟨v0, vs0, d0, ds0, p0, q0, hargs0, rfl, rfl, h0, r0⟩ := trodAll_cons hA
 obtain ⟨rfl, rfl, rfl⟩ := trodAll_nil r0
 obtain rfl : args = #[v0] := by
   obtain ⟨l⟩ := args
   exact congrArg Array.mk (hargs0)
 obtain ⟨rfl, rfl⟩ := trodVars_none hV
 obtain ⟨⟨⟨x0⟩⟩, rfl, rfl, rfl, wx0⟩ := open_string Tryz.underlying9 (hval 0 9 v0 rfl rfl) h0
 clear hA0
 simp only [List.append_nil] at hW'
 refine Calls.mono (names_spec W (gl_of hL hS) x0) ?_
 rintro e W' ⟨v, rfl, rfl, hb⟩
 exact ⟨_, rfl, _, _, _, [], [], [], hW', trodAll_cons_mk (shut_bool Tryz.underlying4 _) trodAll_mk0, trodAll_cons_mk (shut_string Tryz.underlying9 wx0) trodAll_mk0, rfl, hb.frame _, fun h => by cases h⟩
noncomputable def lw (os : Os) : World := World.laidAll Tryz.prog os Rows.parseNamesRow.laid
theorem laid_met (os : Os) : laidMetH Tryz.prog Rows.parseNamesRow.laid ((lw os).forCall (fun _ _ => 0) ⟨#[], #[Value.string ⟨#[]⟩], []⟩).memory := by
 rw [MakeChecks.laidMetH_plain _ _ _ (by kernel_rfl)]
 exact laidMet_laidAll _ (by kernel_rfl) (by kernel_rfl)
theorem reads (os : Os) {H : Type} (enc : TypeId × Value → H) : ∃ places, DataW.whole enc Tryz.prog ((lw os).forCall (fun _ _ => 0) ⟨#[], #[Value.string ⟨#[]⟩], []⟩).memory Tryz.f5.params.toList Rows.parseNamesSpec.vars false (#[Value.string ⟨#[]⟩] : Array Value).toList 8 = some ([.lit (.string [])], [], places) :=
 ⟨[], by kernel_rfl⟩
set_option maxRecDepth 100000 in
theorem lifted (os : Os) (started : os.Started) (H : Type) (enc : TypeId × Value → H) (F : Stop.Interp) :
   ReturnsInHanded {} Tryz.checked os 5 .any ((OpenSpec.ofChange Rows.parseNamesSpec).preRow enc Tryz.prog Tryz.f5 Rows.parseNamesRow.domain false Rows.parseNamesRow.laid) (((OpenSpec.ofChange Rows.parseNamesSpec).at F).post enc Tryz.prog Tryz.f5 false true false false) := by
 obtain ⟨places, hx⟩ := reads os enc
 refine returnsInHanded_of_row (C := Tryz.checked) (s := OpenSpec.ofChange Rows.parseNamesSpec) own started (by kernel_rfl) Tryz.func5
   ⟨lw os, fun _ _ => 0, ⟨#[], #[Value.string ⟨#[]⟩], []⟩, World.laidAll_os _ _ _, World.shaped_of_ZipB (by kernel_rfl) (by kernel_rfl), rfl, (Input.okWide_of_okWideB (by kernel_rfl)).2,
     OpenSpec.preRow_of_cond 8 hx (by kernel_rfl) (fun k hk => by cases hk) (by kernel_rfl) (laid_met os), by simp [Assume.holds]⟩ ?_
 intro W base args ds gs before hval hW _ _ _ hL hS _
 exact contract H enc W base args ds gs before hval hW hL hS
theorem said : Rows.ParseNamesSaid :=
 OpenClaim.holds_of_cond 5 Tryz.f5 rfl rfl rfl rfl rfl rfl rfl ⟨rfl, rfl, rfl, rfl, rfl⟩ rfl rfl rfl rfl rfl (by kernel_rfl) Tryz.func5 (by kernel_rfl)
   (of_decide_eq_true (by kernel_rfl)) (by unfold Func.isWrapper; first | (rw [if_pos (by decide +kernel)]; kernel_rfl) | (rw [if_neg (by decide +kernel)]; exact ⟨rfl, rfl⟩))
   (fun os started H enc _ F => by rw [OpenClaim.pre_eq_preRow]; exact lifted os started H enc F)
theorem plain (f : FuncId) (fn : Func) (hf : Tryz.pinned.checked.prog.funcNamed Rows.parseNamesRow.func = some f) (hfn : Tryz.pinned.checked.prog.funcs[f]? = some fn) :
   true = Tryz.pinned.checked.prog.looks [] ∧ ∀ (j : Nat) t, fn.params[j]? = some t → Tryz.pinned.checked.prog.wantsStandIn t = false := by
 obtain rfl : f = 5 := Option.some.inj ((show Tryz.prog.funcNamed Rows.parseNamesRow.func = some 5 by kernel_rfl).symm.trans hf) |>.symm
 obtain rfl : fn = Tryz.f5 := (Option.some.inj (Tryz.func5.symm.trans hfn)).symm
 refine ⟨by kernel_rfl, fun j t ht => ?_⟩
 rw [Tryz.params5] at ht
 have hm := Array.mem_of_getElem? ht
 have ht2 : t = 9 := by simpa using hm
 rcases ht2 with rfl
 · exact (show Tryz.prog.wantsStandIn 9 = false by kernel_rfl)
end Go.Proofs.YthjdnhnbgjgbkaaGreatDoor.Names
namespace Go.Proofs.YthjdnhnbgjgbkaaGreatDoor
theorem names_card : Rows.ParseNamesCardSaid :=
 Claim7.holds_tied_plain_at .later [] _ _ _ _ Names.said (fun _ h => by cases h) (by kernel_rfl) (fun _ h => by cases h) parseNames_row_tie rfl ⟨rfl, rfl⟩ (by kernel_rfl) rfl Names.plain (by kernel_rfl)
end Go.Proofs.YthjdnhnbgjgbkaaGreatDoor
