/- ParsePieces: of every two texts the law answers true. -/
import Derived.Test.YthjdnhnbgjgbkaaGreatDoorGa7
import Derived.ChangeMaps5
set_option linter.unusedVariables false
set_option linter.unusedSimpArgs false
namespace Go.SP
def Nd.bnd : Nd → Prop
 | .nil => True
 | .cons _ _ _ _ _ kids rest => kids.len ≤ 200000 ∧ kids.bnd ∧ rest.bnd
def N.bnd (a : N) : Prop := a.kids.len ≤ 200000 ∧ a.kids.bnd
theorem N.bnd_cons {a : N} {r : Nd} (h : a.bnd) (hr : r.bnd) : (a.cons r).bnd := ⟨h.1, h.2, hr⟩
theorem N.bnd_one {a : N} (h : a.bnd) : a.one.bnd := ⟨h.1, h.2, trivial⟩
theorem Nd.bnd_app : ∀ {x y : Nd}, x.bnd → y.bnd → (x.app y).bnd
 | .nil, _, _, h => h
 | .cons _ _ _ _ _ _ _, _, h, hy => ⟨h.1, h.2.1, Nd.bnd_app h.2.2 hy⟩
def okL (_ : Tok) (k : Fo) : Prop := k.ok ∧ k.len ≤ 100000
theorem all_okL : ∀ {fo : Fo}, fo.ok → fo.all okL
 | .nil, _ => trivial
 | .cons _ _ _, h => ⟨⟨h.2.1, h.2.2.1⟩, all_okL h.2.2.2⟩
theorem need_ok {α : Type} {t : Tok} {b : Bool} {x : R α} {a : α} (h : need t b x = .ok a) : x = .ok a := by
 unfold need at h
 try simp only at h
 split at h
 · exact h
 · cases h
theorem eachM_bnd {f : Tok → Fo → R N} {p : Tok → Fo → Prop} (hf : ∀ t k a, p t k → f t k = .ok a → a.bnd) : ∀ {fo : Fo} {x : Nd}, fo.all p → eachM f fo = .ok x → x.bnd
 | .nil, x, _, h => by simp [eachM] at h; subst h; trivial
 | .cons t k r, x, hp, h => by
   unfold eachM at h
   have h2 := h
   try simp only at h2
   split at h2
   · cases h2
   rename_i a h1
   have h4 := h2
   try simp only at h4
   split at h4
   · cases h4
   rename_i b h3
   cases h4
   exact N.bnd_cons (hf t k a hp.1 h1) (eachM_bnd hf hp.2 h3)
theorem node_bnd {t : Tok} {op : Int} {tx : List UInt8} {ks : Nd} (h : ks.len ≤ 200000) (hb : ks.bnd) : (node t op tx ks).bnd := ⟨h, hb⟩
theorem node_bnd0 {t : Tok} {op : Int} {tx : List UInt8} : (node t op tx .nil).bnd := ⟨by simp [node, Nd.len], trivial⟩
theorem each_node {f : Tok → Fo → R N} (hf : ∀ t k a, okL t k → f t k = .ok a → a.bnd) {l : Fo} (hl : l.ok) (hn : l.len ≤ 100000) {t : Tok} {op : Int} {tx : List UInt8} {a : N} (h : (match eachM f l with | .error e => .error e | .ok ks => .ok (node t op tx ks) : R N) = .ok a) : a.bnd := by
 have h2 := h
 try simp only at h2
 split at h2
 · cases h2
 rename_i ks h1
 cases h2
 exact node_bnd (by rw [eachM_len h1]; omega) (eachM_bnd hf (all_okL hl) h1)
theorem holeM_bnd (t : Tok) (k : Fo) (a : N) (_ : okL t k) (h : holeM t k = .ok a) : a.bnd := by
 unfold holeM at h
 cases h
 split <;> exact node_bnd0
theorem patM_bnd : ∀ (n : Nat) (t : Tok) (k : Fo) (a : N), okL t k → patM n t k = .ok a → a.bnd
 | 0, _, _, _, _, h => by cases h
 | n + 1, t, k, a, hk, h => by
   have ih := patM_bnd n
   unfold patM at h
   try simp only at h
   split at h
   · cases h; exact ⟨by simp [Nd.len], trivial⟩
   · try simp only at h
     split at h
     · cases h; exact node_bnd0
     · try simp only at h
       split at h
       · cases h; exact node_bnd0
       · try simp only at h
         split at h
         · exact holeM_bnd t k a hk (need_ok h)
         · try simp only at h
           split at h
           · cases h
           · cases k with
             | nil => cases h; exact node_bnd0
             | cons hd hk' l =>
               have hl : l.ok := hk.1.2.2.2
               have hn : l.len ≤ 100000 := by have := hk.2; simp only [Fo.len] at this; omega
               simp only at h
               try simp only at h
               split at h
               · exact each_node ih hl hn (need_ok h)
               · exact each_node ih hl hn (need_ok h)
theorem arrowM_bnd (t : Tok) : ∀ (x : Nd) (o : N), x.bnd → arrowM t x = some o → o.bnd
 | .nil, _, _, h => by cases h
 | .cons op ln co tx nm kids .nil, o, hb, h => by
   unfold arrowM at h
   cases h
   exact ⟨hb.1, hb.2.1⟩
 | .cons op ln co tx nm kids (.cons a b c d e f r), o, hb, h => by
   unfold arrowM at h
   simp only at h
   cases hr : arrowM t (.cons a b c d e f r) with
   | none => rw [hr] at h; cases h
   | some q =>
     rw [hr] at h
     cases h
     have := arrowM_bnd t (.cons a b c d e f r) q hb.2.2 hr
     exact ⟨by simp [node, N.one, N.cons, Nd.len], hb.1, hb.2.1, this.1, this.2, trivial⟩
theorem typM_bnd : ∀ (n : Nat) (t : Tok) (k : Fo) (a : N), okL t k → typM n t k = .ok a → a.bnd
 | 0, _, _, _, _, h => by cases h
 | n + 1, t, k, a, hk, h => by
   have ih := typM_bnd n
   unfold typM at h
   try simp only at h
   split at h
   · cases k with
     | nil => cases h
     | cons hd hk' l =>
       have hl : l.ok := hk.1.2.2.2
       have hn : l.len ≤ 100000 := by have := hk.2; simp only [Fo.len] at this; omega
       simp only at h
       try simp only at h
       split at h
       · have h2 := need_ok h
         try simp only at h2
         split at h2
         · cases h2
         rename_i ks h1
         try simp only at h2
         split at h2
         · rename_i o ho
           cases h2
           exact arrowM_bnd t ks _ (eachM_bnd ih (all_okL hl) h1) ho
         · cases h2
       · exact each_node ih hl hn (need_ok h)
   · try simp only at h
     split at h
     · cases h; exact node_bnd0
     · have := need_ok h
       cases this; exact node_bnd0
theorem armM_bnd (n : Nat) {ex : Tok → Fo → R N} (hex : ∀ t k a, okL t k → ex t k = .ok a → a.bnd) (t : Tok) (k : Fo) (a : N) (hk : okL t k) (h : armM n ex t k = .ok a) : a.bnd := by
 unfold armM at h
 rcases k with _ | ⟨p, pk, _ | ⟨b, bk, _ | ⟨_, _, _⟩⟩⟩
 · cases h
 · cases h
 · have h2 := need_ok h
   try simp only at h2
   split at h2
   · cases h2
   rename_i q h1
   have h4 := need_ok h2
   try simp only at h4
   split at h4
   · cases h4
   rename_i x h3
   cases h4
   have hq := patM_bnd n p pk q ⟨hk.1.2.1, hk.1.2.2.1⟩ h1
   have hx := hex b bk x ⟨hk.1.2.2.2.2.1, hk.1.2.2.2.2.2.1⟩ h3
   exact node_bnd (by simp [N.one, N.cons, Nd.len]) (N.bnd_cons hq (N.bnd_one hx))
 · cases h
theorem formM_bnd (n : Nat) {ex : Tok → Fo → R N} (hex : ∀ t k a, okL t k → ex t k = .ok a → a.bnd) (t : Tok) (w : List UInt8) (l : Fo) (a : N) (hl : l.ok) (hn : l.len ≤ 100000) (h : formM n ex t w l = .ok a) : a.bnd := by
 unfold formM at h
 try simp only at h
 split at h
 · rcases l with _ | ⟨p, pk, _ | ⟨b, bk, _ | ⟨_, _, _⟩⟩⟩
   · cases h
   · cases h
   · have h2 := need_ok h
     try simp only at h2
     split at h2
     · cases h2
     rename_i hs h1
     have h4 := h2
     try simp only at h4
     split at h4
     · cases h4
     rename_i x h3
     cases h4
     have hb := eachM_bnd holeM_bnd (all_okL hl.2.1) h1
     have hx := hex b bk x ⟨hl.2.2.2.2.1, hl.2.2.2.2.2.1⟩ h3
     have e := eachM_len h1
     have := hl.2.2.1
     exact node_bnd (by rw [Nd.len_app]; simp only [N.one, N.cons, Nd.len]; omega) (Nd.bnd_app hb (N.bnd_one hx))
   · cases h
 · try simp only at h
   split at h
   · rcases l with _ | ⟨v, vk, _ | ⟨e, ek, _ | ⟨b, bk, _ | ⟨_, _, _⟩⟩⟩⟩
     · cases h
     · cases h
     · cases h
     · have h2 := need_ok h
       try simp only at h2
       split at h2
       · cases h2
       rename_i x h1
       have h4 := h2
       try simp only at h4
       split at h4
       · cases h4
       rename_i y h3
       cases h4
       have hx := hex e ek x ⟨hl.2.2.2.2.1, hl.2.2.2.2.2.1⟩ h1
       have hy := hex b bk y ⟨hl.2.2.2.2.2.2.2.1, hl.2.2.2.2.2.2.2.2.1⟩ h3
       exact node_bnd (by simp [N.one, N.cons, Nd.len]) (N.bnd_cons hx (N.bnd_one hy))
     · cases h
   · try simp only at h
     split at h
     · rcases l with _ | ⟨v, vk, _ | ⟨e, ek, _ | ⟨b, bk, _ | ⟨_, _, _⟩⟩⟩⟩
       · cases h
       · cases h
       · cases h
       · have h2 := need_ok h
         try simp only at h2
         split at h2
         · cases h2
         rename_i x h1
         have h4 := h2
         try simp only at h4
         split at h4
         · cases h4
         rename_i y h3
         cases h4
         have hx := hex e ek x ⟨hl.2.2.2.2.1, hl.2.2.2.2.2.1⟩ h1
         have hy := hex b bk y ⟨hl.2.2.2.2.2.2.2.1, hl.2.2.2.2.2.2.2.2.1⟩ h3
         exact node_bnd (by simp [N.one, N.cons, Nd.len]) (N.bnd_cons hx (N.bnd_one hy))
       · cases h
     · try simp only at h
       split at h
       · exact each_node hex hl hn (need_ok h)
       · try simp only at h
         split at h
         · exact each_node hex hl hn (need_ok h)
         · try simp only at h
           split at h
           · exact each_node hex hl hn (need_ok h)
           · try simp only at h
             split at h
             · have h := need_ok h
               cases l with
               | nil => cases h
               | cons e ek arms =>
                 have h2 := h
                 try simp only at h2
                 split at h2
                 · cases h2
                 rename_i x h1
                 have h4 := h2
                 try simp only at h4
                 split at h4
                 · cases h4
                 rename_i ars h3
                 cases h4
                 have hx := hex e ek x ⟨hl.2.1, hl.2.2.1⟩ h1
                 have ha := eachM_bnd (armM_bnd n hex) (all_okL hl.2.2.2) h3
                 have e1 := eachM_len h3
                 simp only [Fo.len] at hn
                 exact node_bnd (by simp only [N.cons, Nd.len]; omega) (N.bnd_cons hx ha)
             · try simp only at h
               split at h
               · rcases l with _ | ⟨e, ek, _ | ⟨_, _, _⟩⟩
                 · cases h
                 · have h2 := h
                   try simp only at h2
                   split at h2
                   · cases h2
                   rename_i x h1
                   cases h2
                   have hx := hex e ek x ⟨hl.2.1, hl.2.2.1⟩ h1
                   exact node_bnd (by simp [N.one, N.cons, Nd.len]) (N.bnd_one hx)
                 · cases h
               · cases h
theorem expM_bnd : ∀ (n : Nat) (t : Tok) (k : Fo) (a : N), okL t k → expM n t k = .ok a → a.bnd
 | 0, _, _, _, _, h => by cases h
 | n + 1, t, k, a, hk, h => by
   have ih := expM_bnd n
   unfold expM at h
   try simp only at h
   split at h
   · cases h; exact ⟨by simp [Nd.len], trivial⟩
   · try simp only at h
     split at h
     · cases h; exact node_bnd0
     · try simp only at h
       split at h
       · cases h; exact node_bnd0
       · try simp only at h
         split at h
         · cases h; exact node_bnd0
         · try simp only at h
           split at h
           · have := need_ok h
             cases this; exact node_bnd0
           · cases k with
             | nil => cases h; exact node_bnd0
             | cons hd hk' l =>
               have hl : l.ok := hk.1.2.2.2
               have hn : l.len ≤ 100000 := by have := hk.2; simp only [Fo.len] at this; omega
               simp only at h
               try simp only at h
               split at h
               · exact each_node ih hl hn (need_ok h)
               · try simp only at h
                 split at h
                 · exact formM_bnd n ih t hd.tx l a hl hn h
                 · exact each_node ih hk.1 hk.2 (need_ok h)
theorem dconM_bnd (n : Nat) (t : Tok) (k : Fo) (a : N) (hk : okL t k) (h : dconM n t k = .ok a) : a.bnd := by
 unfold dconM at h
 cases k with
 | nil => cases h
 | cons hd hk' l =>
   have hl : l.ok := hk.1.2.2.2
   have hn : l.len ≤ 100000 := by have := hk.2; simp only [Fo.len] at this; omega
   exact each_node (typM_bnd n) hl hn (need_ok h)
theorem tvarsM_bnd : ∀ (k : Fo) (x : Nd), tvarsM k = some x → x.bnd ∧ x.len = k.len
 | .nil, x, h => by cases h; exact ⟨trivial, rfl⟩
 | .cons v _ r, x, h => by
   unfold tvarsM at h
   try simp only at h
   split at h
   · cases hr : tvarsM r with
     | none => rw [hr] at h; cases h
     | some y =>
       rw [hr] at h
       cases h
       have := tvarsM_bnd r y hr
       exact ⟨N.bnd_cons node_bnd0 this.1, by simp only [N.cons, Nd.len, Fo.len, this.2]⟩
   · cases h
theorem topM_bnd (n : Nat) (t : Tok) (k : Fo) (a : N) (hk : okL t k) (h : topM n t k = .ok a) : a.bnd := by
 unfold topM at h
 cases k with
 | nil => cases h
 | cons hd hk' l =>
   have hl : l.ok := hk.1.2.2.2
   have hn : l.len ≤ 100000 := by have := hk.2; simp only [Fo.len] at this; omega
   have h := need_ok h
   try simp only at h
   split at h
   · rcases l with _ | ⟨a1, ak, _ | ⟨b, bk, _ | ⟨c, ck, r⟩⟩⟩
     · cases h
     · cases h
     · cases h
     · have h := need_ok h
       cases hv : tvarsM bk with
       | none => rw [hv] at h; cases h
       | some vs =>
         rw [hv] at h
         have h2 := h
         try simp only at h2
         split at h2
         · cases h2
         rename_i cs h1
         cases h2
         have hvb := tvarsM_bnd bk vs hv
         have e1 := eachM_len h1
         have := hl.2.2.2.2.2.1
         simp only [Fo.len] at hn e1
         exact node_bnd (by rw [Nd.len_app, hvb.2]; omega) (Nd.bnd_app hvb.1 (eachM_bnd (dconM_bnd n) (all_okL hl.2.2.2.2.2.2) h1))
   · try simp only at h
     split at h
     · rcases l with _ | ⟨a1, ak, _ | ⟨b, bk, _ | ⟨c, ck, _ | ⟨_, _, _⟩⟩⟩⟩
       · cases h
       · cases h
       · cases h
       · have h2 := need_ok h
         try simp only at h2
         split at h2
         · cases h2
         rename_i x h1
         have h4 := h2
         try simp only at h4
         split at h4
         · cases h4
         rename_i y h3
         cases h4
         have hx := typM_bnd n b bk x ⟨hl.2.2.2.2.1, hl.2.2.2.2.2.1⟩ h1
         have hy := expM_bnd n c ck y ⟨hl.2.2.2.2.2.2.2.1, hl.2.2.2.2.2.2.2.2.1⟩ h3
         exact node_bnd (by simp [N.one, N.cons, Nd.len]) (N.bnd_cons hx (N.bnd_one hy))
       · cases h
     · try simp only at h
       split at h
       · rcases l with _ | ⟨a1, ak, _ | ⟨b, bk, _ | ⟨_, _, _⟩⟩⟩
         · cases h
         · cases h
         · have h2 := need_ok h
           try simp only at h2
           split at h2
           · cases h2
           rename_i x h1
           cases h2
           exact node_bnd (by simp [N.one, N.cons, Nd.len]) (N.bnd_one (expM_bnd n b bk x ⟨hl.2.2.2.2.1, hl.2.2.2.2.2.1⟩ h1))
         · cases h
       · try simp only at h
         split at h
         · rcases l with _ | ⟨a1, ak, _ | ⟨b, bk, _ | ⟨_, _, _⟩⟩⟩
           · cases h
           · cases h
           · have h2 := need_ok h
             try simp only at h2
             split at h2
             · cases h2
             rename_i x h1
             cases h2
             exact node_bnd (by simp [N.one, N.cons, Nd.len]) (N.bnd_one (expM_bnd n b bk x ⟨hl.2.2.2.2.1, hl.2.2.2.2.2.1⟩ h1))
           · cases h
         · try simp only at h
           split at h
           · rcases l with _ | ⟨b, bk, _ | ⟨_, _, _⟩⟩
             · cases h
             · have h2 := h
               try simp only at h2
               split at h2
               · cases h2
               rename_i x h1
               cases h2
               exact node_bnd (by simp [N.one, N.cons, Nd.len]) (N.bnd_one (expM_bnd n b bk x ⟨hl.2.1, hl.2.2.1⟩ h1))
             · cases h
           · cases h
theorem progM_bnd (n : Nat) (src : List UInt8) : (progM n (lexM src)).1.bnd ∧ (progM n (lexM src)).1.len ≤ 100000 := by
 cases hl : lexM src with
 | error e => exact ⟨trivial, Nat.zero_le _⟩
 | ok toks =>
   obtain ⟨h1, h2⟩ := lexM_ok hl
   unfold progM
   simp only []
   cases hf : treesM toks [] .nil with
   | error e => exact ⟨trivial, Nat.zero_le _⟩
   | ok fo =>
     simp only []
     have hi := treesM_inv toks 0 [] .nil fo h2 (by omega) (by simp) trivial trivial (by simp [Fo.len]) (by rfl) hf
     cases he : eachM (topM n) fo with
     | error e => exact ⟨trivial, Nat.zero_le _⟩
     | ok nds => exact ⟨eachM_bnd (topM_bnd n) (all_okL hi.1) he, by simp only [eachM_len he]; omega⟩
end Go.SP
namespace Go.SP
def Tok.er (t : Tok) : Tok := ⟨t.k, 0, 0, t.nm, t.tx⟩
def Fo.er : Fo → Fo
 | .nil => .nil
 | .cons t k r => .cons t.er k.er r.er
def Nd.er : Nd → Nd
 | .nil => .nil
 | .cons op _ _ tx nm kids r => .cons op 0 0 tx nm kids.er r.er
def N.er (a : N) : N := ⟨a.op, 0, 0, a.tx, a.nm, a.kids.er⟩
def mapX {α β : Type} (f : α → β) : R α → R β
 | .error _ => .error (0, 0)
 | .ok x => .ok (f x)
theorem Fo.er_len : ∀ k : Fo, k.er.len = k.len
 | .nil => rfl
 | .cons _ _ r => by simp only [Fo.er, Fo.len, Fo.er_len r]
theorem N.er_cons (a : N) (r : Nd) : (a.cons r).er = a.er.cons r.er := rfl
theorem N.er_one (a : N) : a.one.er = a.er.one := rfl
theorem Nd.er_app : ∀ x y : Nd, (x.app y).er = x.er.app y.er
 | .nil, _ => rfl
 | .cons _ _ _ _ _ _ r, y => by simp only [Nd.app, Nd.er, Nd.er_app r y]
theorem node_er (t : Tok) (op : Int) (tx : List UInt8) (ks : Nd) : (node t op tx ks).er = node t.er op tx ks.er := rfl
theorem need_er {α : Type} {β : Type} (f : α → β) (t : Tok) (b : Bool) (x : R α) (y : R β) (h : b = true → y = mapX f x) : need t.er b y = mapX f (need t b x) := by
 unfold need
 cases b with
 | true => simp only [if_true]; exact h rfl
 | false => rfl
theorem eachM_er {f g : Tok → Fo → R N} : ∀ (k : Fo), k.all (fun t l => f t.er l.er = mapX N.er (g t l)) → eachM f k.er = mapX Nd.er (eachM g k)
 | .nil, _ => rfl
 | .cons t l r, h => by
   simp only [Fo.er, eachM]
   rw [h.1, eachM_er r h.2]
   cases g t l with
   | error e => rfl
   | ok a =>
     cases eachM g r with
     | error e => rfl
     | ok b => rfl
theorem all_of' {p : Tok → Fo → Prop} (h : ∀ t l, p t l) : ∀ k : Fo, k.all p
 | .nil => trivial
 | .cons t l r => ⟨h t l, all_of' h r⟩
theorem holeM_er (t : Tok) (k : Fo) : holeM t.er k.er = mapX N.er (holeM t k) := by
 unfold holeM
 show Except.ok _ = Except.ok _
 have e : t.er.isWord [95] = t.isWord [95] := rfl
 rw [e]
 split <;> rfl
theorem holes_er : ∀ k : Fo, holes k.er = holes k
 | .nil => rfl
 | .cons t _ r => by simp only [Fo.er, holes, holes_er r]; rfl
theorem onceM_er : ∀ (x : Nd) (s : List (List UInt8)), onceM s x.er = onceM s x
 | .nil, _ => rfl
 | .cons op _ _ tx _ kids rest, s => by
   simp only [Nd.er, onceM]
   split
   · rfl
   · rename_i s1 _
     rw [onceM_er kids s1]
     split
     · rfl
     · rename_i s2 _
       exact onceM_er rest s2
theorem if_er {α β : Type} {f : α → β} {c : Bool} {a b : R β} {a' b' : R α} (h1 : a = mapX f a') (h2 : b = mapX f b') : (if c then a else b) = mapX f (if c then a' else b') := by
 cases c with
 | true => exact h1
 | false => exact h2
theorem each_er {f : Tok → Fo → R N} (h : ∀ t k, f t.er k.er = mapX N.er (f t k)) (l : Fo) : eachM f l.er = mapX Nd.er (eachM f l) := eachM_er l (all_of' h l)
theorem patM_er : ∀ (n : Nat) (t : Tok) (k : Fo), patM n t.er k.er = mapX N.er (patM n t k)
 | 0, _, _ => rfl
 | n + 1, t, k => by
   have ih := each_er (patM_er n)
   unfold patM
   refine if_er rfl (if_er rfl (if_er rfl (if_er (need_er N.er t _ _ _ fun _ => holeM_er t k) (if_er rfl ?_))))
   cases k with
   | nil => rfl
   | cons h kk l =>
     refine if_er ?_ ?_
     · rw [Fo.er_len]; exact need_er N.er t _ _ _ fun _ => by rw [ih l]; cases eachM (patM n) l <;> rfl
     · rw [Fo.er_len]; exact need_er N.er t _ _ _ fun _ => by rw [ih l]; cases eachM (patM n) l <;> rfl
theorem arrowM_er (t : Tok) : ∀ x : Nd, arrowM t.er x.er = (arrowM t x).map N.er
 | .nil => rfl
 | .cons op ln co tx nm kids .nil => rfl
 | .cons op ln co tx nm kids (.cons a b c d e f r) => by
   have ih := arrowM_er t (.cons a b c d e f r)
   have u : ∀ (t : Tok) (op ln co : Int) (tx : List UInt8) (nm : Int) (kids : Nd) (a b c : Int) (d : List UInt8) (e : Int) (f r : Nd), arrowM t (.cons op ln co tx nm kids (.cons a b c d e f r)) = (arrowM t (.cons a b c d e f r)).map fun o => node t 32 [45, 62] (.cons op ln co tx nm kids o.one) := by
     intro t op ln co tx nm kids a b c d e f r
     conv => lhs; unfold arrowM
     cases arrowM t (.cons a b c d e f r) <;> rfl
   show arrowM t.er (.cons op 0 0 tx nm kids.er (Nd.cons a b c d e f r).er) = _
   show arrowM t.er (.cons op 0 0 tx nm kids.er (.cons a 0 0 d e f.er r.er)) = _
   rw [u, u, show arrowM t.er (.cons a 0 0 d e f.er r.er) = _ from ih]
   cases arrowM t (.cons a b c d e f r) <;> rfl
theorem typM_er : ∀ (n : Nat) (t : Tok) (k : Fo), typM n t.er k.er = mapX N.er (typM n t k)
 | 0, _, _ => rfl
 | n + 1, t, k => by
   have ih := each_er (typM_er n)
   unfold typM
   refine if_er ?_ (if_er rfl (need_er N.er t _ _ _ fun _ => rfl))
   cases k with
   | nil => rfl
   | cons h kk l =>
     refine if_er ?_ ?_
     · rw [Fo.er_len]
       refine need_er N.er t _ _ _ fun _ => ?_
       rw [ih l]
       cases eachM (typM n) l with
       | error e => rfl
       | ok a =>
         simp only [mapX]
         rw [arrowM_er]
         cases arrowM t a <;> rfl
     · rw [Fo.er_len]; exact need_er N.er t _ _ _ fun _ => by rw [ih l]; cases eachM (typM n) l <;> rfl
theorem armM_er (n : Nat) (ex : Tok → Fo → R N) (hex : ∀ t k, ex t.er k.er = mapX N.er (ex t k)) (t : Tok) (k : Fo) : armM n ex t.er k.er = mapX N.er (armM n ex t k) := by
 unfold armM
 cases k with
 | nil => rfl
 | cons p pk r =>
   cases r with
   | nil => rfl
   | cons b bk r =>
     cases r with
     | cons _ _ _ => rfl
     | nil =>
       refine need_er N.er t _ _ _ fun _ => ?_
       rw [patM_er n p pk]
       cases patM n p pk with
       | error e => rfl
       | ok q =>
         simp only [mapX]
         rw [← N.er_one, onceM_er]
         exact need_er N.er p _ _ _ fun _ => by rw [hex b bk]; cases ex b bk <;> rfl
theorem isFn_er (t : Tok) (k : Fo) : isFn t.er k.er = isFn t k := by cases k <;> rfl
theorem formM_er (n : Nat) (ex : Tok → Fo → R N) (hex : ∀ t k, ex t.er k.er = mapX N.er (ex t k)) (t : Tok) (w : List UInt8) (l : Fo) : formM n ex t.er w l.er = mapX N.er (formM n ex t w l) := by
 have ih := each_er hex
 have iha := each_er (armM_er n ex hex)
 unfold formM
 refine if_er ?_ (if_er ?_ (if_er ?_ (if_er ?_ (if_er ?_ (if_er ?_ (if_er ?_ (if_er ?_ rfl)))))))
 · rcases l with _ | ⟨p, pk, _ | ⟨b, bk, _ | ⟨_, _, _⟩⟩⟩
   · rfl
   · rfl
   · simp only [Fo.er]
     rw [Fo.er_len, holes_er]
     refine need_er N.er t _ _ _ fun _ => ?_
     rw [each_er holeM_er pk]
     cases eachM holeM pk with
     | error e => rfl
     | ok hs =>
       simp only [mapX]
       rw [hex b bk]
       cases ex b bk with
       | error e => rfl
       | ok x =>
         show Except.ok _ = Except.ok _
         rw [node_er, Nd.er_app]; rfl
   · rfl
 · rcases l with _ | ⟨v, vk, _ | ⟨e, ek, _ | ⟨b, bk, _ | ⟨_, _, _⟩⟩⟩⟩
   · rfl
   · rfl
   · rfl
   · exact need_er N.er t _ _ _ fun _ => by
       rw [hex e ek]
       cases ex e ek with
       | error _ => rfl
       | ok x => simp only [mapX]; rw [hex b bk]; cases ex b bk <;> rfl
   · rfl
 · rcases l with _ | ⟨v, vk, _ | ⟨e, ek, _ | ⟨b, bk, _ | ⟨_, _, _⟩⟩⟩⟩
   · rfl
   · rfl
   · rfl
   · simp only [Fo.er]
     rw [isFn_er]
     exact need_er N.er t _ _ _ fun _ => by
       rw [hex e ek]
       cases ex e ek with
       | error _ => rfl
       | ok x => simp only [mapX]; rw [hex b bk]; cases ex b bk <;> rfl
   · rfl
 · rw [Fo.er_len]; exact need_er N.er t _ _ _ fun _ => by rw [ih l]; cases eachM ex l <;> rfl
 · rw [Fo.er_len]; exact need_er N.er t _ _ _ fun _ => by rw [ih l]; cases eachM ex l <;> rfl
 · rw [Fo.er_len]; exact need_er N.er t _ _ _ fun _ => by rw [ih l]; cases eachM ex l <;> rfl
 · rw [Fo.er_len]
   refine need_er N.er t _ _ _ fun _ => ?_
   cases l with
   | nil => rfl
   | cons e ek arms =>
     simp only [Fo.er]
     rw [hex e ek]
     cases ex e ek with
     | error _ => rfl
     | ok x => simp only [mapX]; rw [iha arms]; cases eachM (armM n ex) arms <;> rfl
 · rcases l with _ | ⟨e, ek, _ | ⟨_, _, _⟩⟩
   · rfl
   · simp only [Fo.er]; rw [hex e ek]; cases ex e ek <;> rfl
   · rfl
theorem expM_er : ∀ (n : Nat) (t : Tok) (k : Fo), expM n t.er k.er = mapX N.er (expM n t k)
 | 0, _, _ => rfl
 | n + 1, t, k => by
   have ih := each_er (expM_er n)
   unfold expM
   refine if_er rfl (if_er rfl (if_er rfl (if_er rfl (if_er (need_er N.er t _ _ _ fun _ => rfl) ?_))))
   cases k with
   | nil => rfl
   | cons h kk l =>
     refine if_er ?_ (if_er (formM_er n _ (expM_er n) t h.tx l) ?_)
     · rw [Fo.er_len]; exact need_er N.er t _ _ _ fun _ => by rw [ih l]; cases eachM (expM n) l <;> rfl
     · rw [Fo.er_len]; exact need_er N.er t _ _ _ fun _ => by rw [ih (.cons h kk l)]; cases eachM (expM n) (.cons h kk l) <;> rfl
theorem dconM_er (n : Nat) (t : Tok) (k : Fo) : dconM n t.er k.er = mapX N.er (dconM n t k) := by
 unfold dconM
 cases k with
 | nil => rfl
 | cons h kk l =>
   have e : decide (((Fo.cons h kk l).er.len : Int) ≤ 9) = decide (((Fo.cons h kk l).len : Int) ≤ 9) := by simp only [Fo.er_len]
   show need t.er (t.k == 0 && (h.k == 6 && decide (((Fo.cons h kk l).er.len : Int) ≤ 9))) _ = _
   rw [e]
   exact need_er N.er t _ _ _ fun _ => by rw [each_er (typM_er n) l]; cases eachM (typM n) l <;> rfl
theorem tvarsM_er : ∀ k : Fo, tvarsM k.er = (tvarsM k).map Nd.er
 | .nil => rfl
 | .cons v _ r => by
   simp only [Fo.er, tvarsM, tvarsM_er r]
   rw [show v.er.isTypeVar = v.isTypeVar from rfl]
   split
   · cases tvarsM r <;> rfl
   · rfl
theorem topM_er (n : Nat) (t : Tok) (k : Fo) : topM n t.er k.er = mapX N.er (topM n t k) := by
 unfold topM
 cases k with
 | nil => rfl
 | cons h kk l =>
   refine need_er N.er t _ _ _ fun _ => if_er ?_ (if_er ?_ (if_er ?_ (if_er ?_ (if_er ?_ rfl))))
   · rcases l with _ | ⟨a, ak, _ | ⟨b, bk, _ | ⟨c, ck, r⟩⟩⟩
     · rfl
     · rfl
     · rfl
     · simp only [Fo.er]
       rw [Fo.er_len, tvarsM_er]
       refine need_er N.er t _ _ _ fun _ => ?_
       cases tvarsM bk with
       | none => rfl
       | some vs =>
         simp only [Option.map_some]
         rw [show eachM (dconM n) (Fo.cons c.er ck.er r.er) = _ from each_er (dconM_er n) (.cons c ck r)]
         cases eachM (dconM n) (.cons c ck r) with
         | error e => rfl
         | ok cs =>
           show Except.ok _ = Except.ok _
           rw [node_er, Nd.er_app]; rfl
   · rcases l with _ | ⟨a, ak, _ | ⟨b, bk, _ | ⟨c, ck, _ | ⟨_, _, _⟩⟩⟩⟩
     · rfl
     · rfl
     · rfl
     · exact need_er N.er t _ _ _ fun _ => by
         rw [typM_er n b bk]
         cases typM n b bk with
         | error _ => rfl
         | ok x => simp only [mapX]; rw [expM_er n c ck]; cases expM n c ck <;> rfl
     · rfl
   · rcases l with _ | ⟨a, ak, _ | ⟨b, bk, _ | ⟨_, _, _⟩⟩⟩
     · rfl
     · rfl
     · exact need_er N.er t _ _ _ fun _ => by rw [expM_er n b bk]; cases expM n b bk <;> rfl
     · rfl
   · rcases l with _ | ⟨a, ak, _ | ⟨b, bk, _ | ⟨_, _, _⟩⟩⟩
     · rfl
     · rfl
     · simp only [Fo.er]
       rw [isFn_er]
       exact need_er N.er t _ _ _ fun _ => by rw [expM_er n b bk]; cases expM n b bk <;> rfl
     · rfl
   · rcases l with _ | ⟨b, bk, _ | ⟨_, _, _⟩⟩
     · rfl
     · simp only [Fo.er]; rw [expM_er n b bk]; cases expM n b bk <;> rfl
     · rfl
theorem Fo.er_snoc : ∀ (a : Fo) (t : Tok) (k : Fo), (a.snoc t k).er = a.er.snoc t.er k.er
 | .nil, _, _ => rfl
 | .cons _ _ r, t, k => by simp only [Fo.snoc, Fo.er, Fo.er_snoc r t k]
def erS (st : List (Tok × Fo)) : List (Tok × Fo) := st.map fun x => (x.1.er, x.2.er)
theorem treesM_er : ∀ (l : List Tok) (st : List (Tok × Fo)) (cur : Fo), treesM (l.map Tok.er) (erS st) cur.er = mapX Fo.er (treesM l st cur)
 | [], [], cur => rfl
 | [], (o, p) :: s, cur => by
   have h1 : ∃ e, treesM [] ((o, p) :: s) cur = .error e := by unfold treesM; split <;> exact ⟨_, rfl⟩
   obtain ⟨e, he⟩ := h1
   rw [he]
   simp only [List.map_nil, erS, List.map_cons, treesM]
   split
   · rename_i q f hq
     have : q.ln = 0 ∧ q.co = 0 := by
       have hm := List.mem_of_getLast? hq
       rcases List.mem_cons.1 hm with h | h
       · cases h; exact ⟨rfl, rfl⟩
       · obtain ⟨x, _, hx⟩ := List.mem_map.1 h
         cases hx; exact ⟨rfl, rfl⟩
     rw [this.1, this.2]; rfl
   · rfl
 | k :: l, st, cur => by
   simp only [List.map_cons, treesM]
   refine if_er ?_ (if_er ?_ ?_)
   · rw [show (erS st).length = st.length from List.length_map _]
     exact if_er rfl (treesM_er l ((k, cur) :: st) .nil)
   · cases st with
     | nil => rfl
     | cons op s =>
       obtain ⟨o, p⟩ := op
       have := treesM_er l s (p.snoc o cur)
       rw [Fo.er_snoc] at this
       exact this
   · have := treesM_er l st (cur.snoc k .nil)
     rw [Fo.er_snoc] at this
     exact this
/-- Tokens as nodes. -/
def parsM (n : Nat) (l : List Tok) : R Nd := match treesM l [] .nil with
 | .error e => .error e
 | .ok fo => eachM (topM n) fo
theorem parsM_er (n : Nat) (l : List Tok) : parsM n (l.map Tok.er) = mapX Nd.er (parsM n l) := by
 unfold parsM
 rw [show treesM (l.map Tok.er) [] .nil = _ from treesM_er l [] .nil]
 cases treesM l [] .nil with
 | error e => rfl
 | ok fo => exact each_er (topM_er n) fo
end Go.SP
namespace Go.SP
theorem treesM_then : ∀ (l tb : List Tok) (st : List (Tok × Fo)) (cur fo : Fo), treesM l st cur = .ok fo → treesM (l ++ tb) st cur = treesM tb [] fo
 | [], tb, [], cur, fo, h => by cases h; rfl
 | [], tb, (o, p) :: s, cur, fo, h => by unfold treesM at h; split at h <;> cases h
 | k :: l, tb, st, cur, fo, h => by
   simp only [List.cons_append, treesM] at h ⊢
   split at h
   · rename_i h0
     rw [if_pos h0]
     split at h
     · cases h
     · rename_i h1
       rw [if_neg h1]
       exact treesM_then l tb _ _ fo h
   · rename_i h0
     rw [if_neg h0]
     split at h
     · rename_i h1
       rw [if_pos h1]
       cases st with
       | nil => cases h
       | cons op s => exact treesM_then l tb _ _ fo h
     · rename_i h1
       rw [if_neg h1]
       exact treesM_then l tb _ _ fo h
theorem Fo.app_nil : ∀ a : Fo, a.app .nil = a
 | .nil => rfl
 | .cons _ _ r => by simp only [Fo.app, Fo.app_nil r]
theorem Fo.app_snoc : ∀ (a b : Fo) (t : Tok) (k : Fo), (a.app b).snoc t k = a.app (b.snoc t k)
 | .nil, _, _, _ => rfl
 | .cons _ _ r, b, t, k => by simp only [Fo.app, Fo.snoc, Fo.app_snoc r b t k]
def bot (fa : Fo) : List (Tok × Fo) → List (Tok × Fo)
 | [] => []
 | [(o, p)] => [(o, fa.app p)]
 | x :: y :: s => x :: bot fa (y :: s)
def mapA (fa : Fo) : R Fo → R Fo
 | .error e => .error e
 | .ok fo => .ok (fa.app fo)
def cur0 (fa : Fo) (st : List (Tok × Fo)) (cur : Fo) : Fo := match st with
 | [] => fa.app cur
 | _ => cur
theorem bot_len (fa : Fo) : ∀ st, (bot fa st).length = st.length
 | [] => rfl
 | [_] => rfl
 | _ :: y :: s => by simp only [bot, List.length_cons, bot_len fa (y :: s)]
theorem bot_last (fa : Fo) : ∀ st, ((bot fa st).getLast?).map (·.1) = (st.getLast?).map (·.1)
 | [] => rfl
 | [_] => rfl
 | x :: y :: s => by
   have ih := bot_last fa (y :: s)
   have e : ∀ (z : Tok × Fo) (u : List (Tok × Fo)), u ≠ [] → (z :: u).getLast? = u.getLast? := fun z u hu => by cases u with | nil => exact absurd rfl hu | cons _ _ => rfl
   simp only [bot]
   rw [e x (bot fa (y :: s)) (fun h => by have := bot_len fa (y :: s); rw [h] at this; cases this), e x (y :: s) (by simp)]
   exact ih
theorem treesM_bot (fa : Fo) : ∀ (l : List Tok) (st : List (Tok × Fo)) (cur : Fo), treesM l (bot fa st) (cur0 fa st cur) = mapA fa (treesM l st cur)
 | [], [], cur => rfl
 | [], (o, p) :: s, cur => by
   have hl := bot_last fa ((o, p) :: s)
   have hb : ∃ o' p' s', bot fa ((o, p) :: s) = (o', p') :: s' := by cases s with | nil => exact ⟨_, _, _, rfl⟩ | cons y s => exact ⟨_, _, _, rfl⟩
   obtain ⟨o', p', s', hb⟩ := hb
   rw [hb] at hl ⊢
   simp only [treesM]
   cases h1 : ((o, p) :: s).getLast? with
   | none => simp at h1
   | some q =>
     cases h2 : ((o', p') :: s').getLast? with
     | none => simp at h2
     | some q' =>
       rw [h1, h2] at hl
       obtain ⟨a, b⟩ := q
       obtain ⟨a', b'⟩ := q'
       simp at hl
       simp only [hl]
       rfl
 | k :: l, st, cur => by
   simp only [treesM]
   rw [bot_len]
   split
   · split
     · rfl
     · have ih := treesM_bot fa l ((k, cur) :: st) .nil
       have e : (k, cur0 fa st cur) :: bot fa st = bot fa ((k, cur) :: st) := by cases st <;> rfl
       rw [e]
       exact ih
   · split
     · cases st with
       | nil => rfl
       | cons op s =>
         obtain ⟨o, p⟩ := op
         cases s with
         | nil =>
           have ih := treesM_bot fa l [] (p.snoc o cur)
           show treesM l [] ((fa.app p).snoc o cur) = _
           rw [Fo.app_snoc]
           exact ih
         | cons y s => exact treesM_bot fa l (y :: s) (p.snoc o cur)
     · have ih := treesM_bot fa l st (cur.snoc k .nil)
       have e : (cur0 fa st cur).snoc k .nil = cur0 fa st (cur.snoc k .nil) := by cases st with | nil => exact Fo.app_snoc fa cur k .nil | cons _ _ => rfl
       rw [e]
       exact ih
theorem treesM_app {ta tb : List Tok} {fa : Fo} (h : treesM ta [] .nil = .ok fa) : treesM (ta ++ tb) [] .nil = mapA fa (treesM tb [] .nil) := by
 rw [treesM_then ta tb [] .nil fa h]
 have := treesM_bot fa tb [] .nil
 rw [show cur0 fa [] .nil = fa from Fo.app_nil fa] at this
 exact this
theorem eachM_app (f : Tok → Fo → R N) : ∀ (a b : Fo), eachM f (a.app b) = (match eachM f a with
   | .error e => .error e
   | .ok x => match eachM f b with
     | .error e => .error e
     | .ok y => .ok (x.app y))
 | .nil, b => by simp only [Fo.app, eachM]; cases eachM f b <;> rfl
 | .cons t k r, b => by
   simp only [Fo.app, eachM, eachM_app f r b]
   cases f t k with
   | error e => rfl
   | ok a =>
     simp only []
     cases eachM f r with
     | error e => rfl
     | ok x => simp only []; cases eachM f b <;> rfl
/-- What is behind a program. -/
theorem parsM_ok {n : Nat} {ta tb : List Tok} {na : Nd} (h : parsM n ta = .ok na) : parsM n (ta ++ tb) = (match parsM n tb with | .error e => .error e | .ok nb => .ok (na.app nb)) := by
 unfold parsM at h ⊢
 cases hf : treesM ta [] .nil with
 | error e => rw [hf] at h; cases h
 | ok fa =>
   rw [hf] at h
   simp only at h
   rw [treesM_app hf]
   cases treesM tb [] .nil with
   | error e => rfl
   | ok fb =>
     simp only [mapA]
     rw [eachM_app, h]
def opens (l : List Tok) : Int := l.foldr (fun t z => z + (if t.k == 0 then 1 else if t.k == 1 then -1 else 0)) 0
theorem treesM_bad_then : ∀ (l tb : List Tok) (st : List (Tok × Fo)) (cur : Fo) (e : Int × Int), (st.length : Int) + opens l = 0 → treesM l st cur = .error e → ∃ e', treesM (l ++ tb) st cur = .error e'
 | [], tb, [], cur, e, _, h => by cases h
 | [], tb, (o, p) :: s, cur, e, h0, _ => by simp [opens] at h0; omega
 | k :: l, tb, st, cur, e, h0, h => by
   have ho : opens (k :: l) = opens l + (if k.k == 0 then 1 else if k.k == 1 then -1 else 0) := rfl
   rw [ho] at h0
   simp only [List.cons_append, treesM] at h ⊢
   split at h
   · rename_i h1
     rw [if_pos h1] at h0
     rw [if_pos h1]
     split at h
     · rename_i h2; rw [if_pos h2]; exact ⟨_, rfl⟩
     · rename_i h2
       rw [if_neg h2]
       exact treesM_bad_then l tb _ _ e (by simp only [List.length_cons]; omega) h
   · rename_i h1
     rw [if_neg h1] at h0
     rw [if_neg h1]
     split at h
     · rename_i h2
       rw [if_pos h2] at h0
       rw [if_pos h2]
       cases st with
       | nil => exact ⟨_, rfl⟩
       | cons op s => exact treesM_bad_then l tb _ _ e (by simp only [List.length_cons] at h0; omega) h
     · rename_i h2
       rw [if_neg h2] at h0
       rw [if_neg h2]
       exact treesM_bad_then l tb _ _ e (by omega) h
theorem parsM_bad {n : Nat} {ta tb : List Tok} {e : Int × Int} (ho : opens ta = 0) (h : parsM n ta = .error e) : ∃ e', parsM n (ta ++ tb) = .error e' := by
 unfold parsM at h ⊢
 cases hf : treesM ta [] .nil with
 | error e0 =>
   obtain ⟨e', he⟩ := treesM_bad_then ta tb [] .nil e0 (by simp [ho]) hf
   rw [he]; exact ⟨_, rfl⟩
 | ok fa =>
   rw [hf] at h
   simp only at h
   rw [treesM_app hf]
   cases treesM tb [] .nil with
   | error e => exact ⟨_, rfl⟩
   | ok fb =>
     simp only [mapA]
     rw [eachM_app, h]
     exact ⟨_, rfl⟩
end Go.SP
namespace Go.SP
open Go.SW Go.RowKit
def eE (x : Except Ps (UInt8 × List UInt8 × Ps)) : Option (UInt8 × List UInt8) := match x with
 | .error _ => none
 | .ok (b, r, _) => some (b, r)
def eStr (x : Except Ps (List UInt8 × List UInt8 × Ps)) : Option (List UInt8 × List UInt8) := match x with
 | .error _ => none
 | .ok (b, r, _) => some (b, r)
def eStep (x : Except Ps (List Tok × List UInt8 × Ps)) : Option (List Tok × List UInt8) := match x with
 | .error _ => none
 | .ok (t, r, _) => some (t.map Tok.er, r)
def eScan (x : Except Ps (List Tok)) : Option (List Tok) := match x with
 | .error _ => none
 | .ok l => some (l.map Tok.er)
theorem escM_p (p p' : Ps) (l : List UInt8) : eE (escM p l) = eE (escM p' l) := by
 cases l with
 | nil => rfl
 | cons c r =>
   simp only [escM]
   split
   · rfl
   · split
     · rfl
     · split
       · rfl
       · split
         · rcases r with _ | ⟨a, _ | ⟨b, r⟩⟩
           · rfl
           · rfl
           · simp only []
             split <;> rfl
         · rfl
theorem escM_short {p : Ps} {l r : List UInt8} {b : UInt8} {q : Ps} (h : escM p l = .ok (b, r, q)) : r.length < l.length := by
 cases l with
 | nil => cases h
 | cons c l =>
   simp only [escM] at h
   repeat' split at h
   all_goals first
     | (cases h; done)
     | (cases h; simp; done)
     | (cases h; simp; omega)
theorem strM_p : ∀ (F : Nat) (l : List UInt8) (F' : Nat) (s s' p p' : Ps) (acc : List UInt8), l.length < F → l.length < F' → eStr (strM s F p acc l) = eStr (strM s' F' p' acc l)
 | 0, l, F', s, s', p, p', acc, h, h' => by cases h
 | F + 1, [], F', s, s', p, p', acc, h, h' => by
   cases F' with
   | zero => cases h'
   | succ F' => rfl
 | F + 1, c :: r, F', s, s', p, p', acc, h, h' => by
     cases F' with
     | zero => cases h'
     | succ F' =>
       simp only [List.length_cons] at h h'
       rw [strM_cons, strM_cons]
       split
       · split <;> rfl
       · split
         · rfl
         · split
           · exact strM_p F r F' s s' _ _ _ (by omega) (by omega)
           · cases r with
             | nil => rfl
             | cons d r =>
               have he := escM_p (adv c p) (adv c p') (d :: r)
               cases h1 : escM (adv c p) (d :: r) with
               | error e =>
                 rw [h1] at he
                 cases h2 : escM (adv c p') (d :: r) with
                 | error e' => simp only [h1, h2]; rfl
                 | ok x => rw [h2] at he; cases he
               | ok x =>
                 obtain ⟨b, r1, q⟩ := x
                 rw [h1] at he
                 cases h2 : escM (adv c p') (d :: r) with
                 | error e' => rw [h2] at he; cases he
                 | ok y =>
                   obtain ⟨b', r1', q'⟩ := y
                   rw [h2] at he
                   simp only [eE, Option.some.injEq, Prod.mk.injEq] at he
                   obtain ⟨rfl, rfl⟩ := he
                   have hs := escM_short h1
                   simp only [List.length_cons] at hs h h'
                   simp only [h1, h2]
                   exact strM_p F r1 F' s s' _ _ _ (by omega) (by omega)
theorem comM_p (p p' : Ps) : ∀ l, (comM p l).1 = (comM p' l).1
 | [] => rfl
 | c :: r => by
   simp only [comM]
   split
   · exact comM_p _ _ r
   · rfl
theorem spanM_p : ∀ (l : List UInt8) (p p' : Ps), (spanM p l).1 = (spanM p' l).1 ∧ (spanM p l).2.1 = (spanM p' l).2.1
 | [], _, _ => ⟨rfl, rfl⟩
 | c :: r, p, p' => by
   simp only [spanM]
   split
   · have ih := spanM_p r (adv c p) (adv c p')
     exact ⟨by simp only [ih.1], ih.2⟩
   · exact ⟨rfl, rfl⟩
theorem stepM_p {F F' : Nat} (p p' : Ps) (l : List UInt8) (h : l.length ≤ F) (h' : l.length ≤ F') : eStep (stepM F p l) = eStep (stepM F' p' l) := by
 cases l with
 | nil => rfl
 | cons c r =>
   simp only [List.length_cons] at h h'
   rw [stepM_cons, stepM_cons]
   split
   · rfl
   · split
     · simp only [eStep, List.map_nil]; rw [comM_p (adv c p) (adv c p')]
     · split
       · rfl
       · split
         · rfl
         · split
           · have hs := strM_p F r F' p p' (adv c p) (adv c p') [] (by omega) (by omega)
             cases h1 : strM p F (adv c p) [] r with
             | error e =>
               rw [h1] at hs
               cases h2 : strM p' F' (adv c p') [] r with
               | error e' => rfl
               | ok x => rw [h2] at hs; cases hs
             | ok x =>
               obtain ⟨tx, r1, q⟩ := x
               rw [h1] at hs
               cases h2 : strM p' F' (adv c p') [] r with
               | error e' => rw [h2] at hs; cases hs
               | ok y =>
                 obtain ⟨tx', r1', q'⟩ := y
                 rw [h2] at hs
                 simp only [eStr, Option.some.injEq, Prod.mk.injEq] at hs
                 obtain ⟨rfl, rfl⟩ := hs
                 rfl
           · have hs := spanM_p r (adv c p) (adv c p')
             rw [← hs.1]
             cases wordM (c :: (spanM (adv c p) r).1) with
             | none => rfl
             | some x =>
               obtain ⟨k, nm, tx⟩ := x
               simp only [eStep, List.map_cons, List.map_nil]
               rw [hs.2]
               rfl
theorem comM_short (p : Ps) : ∀ l, (comM p l).1.length ≤ l.length
 | [] => Nat.le_refl _
 | c :: r => by
   simp only [comM]
   split
   · have := comM_short (adv c p) r; simp only [List.length_cons]; omega
   · exact Nat.le_refl _
theorem spanM_short : ∀ (l : List UInt8) (p : Ps), (spanM p l).2.1.length ≤ l.length
 | [], _ => Nat.le_refl _
 | c :: r, p => by
   simp only [spanM]
   split
   · have := spanM_short r (adv c p); simp only [List.length_cons]; omega
   · exact Nat.le_refl _
theorem strM_short {s : Ps} : ∀ (F : Nat) (p : Ps) (acc l tx r : List UInt8) (q : Ps), strM s F p acc l = .ok (tx, r, q) → r.length ≤ l.length
 | 0, _, _, _, _, _, _, h => by cases h
 | F + 1, p, acc, [], tx, r, q, h => by cases h
 | F + 1, p, acc, c :: l, tx, r, q, h => by
   simp only [List.length_cons]
   rw [strM_cons] at h
   split at h
   · split at h
     · cases h
     · cases h; omega
   · split at h
     · cases h
     · split at h
       · have := strM_short F _ _ _ tx r q h; omega
       · split at h
         · cases h
         · split at h
           · cases h
           · rename_i he
             have := strM_short F _ _ _ tx r q h
             have := escM_short he
             omega
theorem stepM_short {F : Nat} {p q : Ps} {l r : List UInt8} {t : List Tok} (h : stepM F p l = .ok (t, r, q)) : r.length < l.length := by
 cases l with
 | nil => cases h
 | cons c l =>
   simp only [List.length_cons]
   rw [stepM_cons] at h
   split at h
   · cases h; omega
   · split at h
     · simp only [Except.ok.injEq, Prod.mk.injEq] at h
       have := comM_short (adv c p) l
       rw [h.2] at this
       simp only at this
       omega
     · split at h
       · cases h; omega
       · split at h
         · cases h; omega
         · split at h
           · split at h
             · cases h
             · rename_i hs
               cases h
               have := strM_short _ _ _ _ _ _ _ hs
               omega
           · split at h
             · cases h
             · simp only [Except.ok.injEq, Prod.mk.injEq] at h
               have := spanM_short l (adv c p)
               rw [h.2] at this
               simp only at this
               omega
theorem scanM_p : ∀ (n : Nat) (l : List UInt8) (n' F F' : Nat) (p p' : Ps), l.length ≤ n → l.length ≤ n' → l.length ≤ F → l.length ≤ F' → eScan (scanM F n p l) = eScan (scanM F' n' p' l)
 | n, [], n', F, F', p, p', _, _, _, _ => by rw [scanM_nil, scanM_nil]
 | 0, c :: r, _, _, _, _, _, h, _, _, _ => by simp at h
 | n + 1, c :: r, 0, _, _, _, _, _, h, _, _ => by simp at h
 | n + 1, c :: r, n' + 1, F, F', p, p', h1, h2, h3, h4 => by
   rw [scanM_cons, scanM_cons]
   have hs := stepM_p (F := F) (F' := F') p p' (c :: r) h3 h4
   simp only [List.length_cons] at h1 h2 h3 h4
   cases e1 : stepM F p (c :: r) with
   | error e =>
     rw [e1] at hs
     cases e2 : stepM F' p' (c :: r) with
     | error e' => rfl
     | ok x => rw [e2] at hs; cases hs
   | ok x =>
     obtain ⟨t, r1, q⟩ := x
     rw [e1] at hs
     cases e2 : stepM F' p' (c :: r) with
     | error e' => rw [e2] at hs; cases hs
     | ok y =>
       obtain ⟨t', r1', q'⟩ := y
       rw [e2] at hs
       simp only [eStep, Option.some.injEq, Prod.mk.injEq] at hs
       obtain ⟨ht, rfl⟩ := hs
       have hl := stepM_short e1
       simp only [List.length_cons] at hl
       have ih := scanM_p n r1 n' F F' q q' (by omega) (by omega) (by omega) (by omega)
       simp only []
       cases e3 : scanM F n q r1 with
       | error e =>
         rw [e3] at ih
         cases e4 : scanM F' n' q' r1 with
         | error e' => rfl
         | ok x => rw [e4] at ih; cases ih
       | ok x =>
         rw [e3] at ih
         cases e4 : scanM F' n' q' r1 with
         | error e' => rw [e4] at ih; cases ih
         | ok y =>
           rw [e4] at ih
           simp only [eScan, Option.some.injEq] at ih ⊢
           rw [List.map_append, List.map_append, ht, ih]
/-- The tokens of a text, without places. -/
def scO (l : List UInt8) : Option (List Tok) := eScan (scanM (l.length + 1) l.length (1, 1) l)
def stO (l : List UInt8) : Option (List Tok × List UInt8) := eStep (stepM l.length (1, 1) l)
theorem scO_of {F n : Nat} {p : Ps} {l : List UInt8} (h1 : l.length ≤ n) (h2 : l.length ≤ F) : eScan (scanM F n p l) = scO l := scanM_p _ _ _ _ _ _ _ h1 (Nat.le_refl _) h2 (by omega)
theorem stO_of {F : Nat} {p : Ps} {l : List UInt8} (h : l.length ≤ F) : eStep (stepM F p l) = stO l := stepM_p _ _ _ h (Nat.le_refl _)
theorem scO_nil : scO [] = some [] := rfl
theorem scO_cons (c : UInt8) (r : List UInt8) : scO (c :: r) = (match stO (c :: r) with
   | none => none
   | some (t, r') => (scO r').map (t ++ ·)) := by
 unfold scO
 rw [List.length_cons, scanM_cons]
 have hs := stO_of (F := r.length + 1 + 1) (p := (1, 1)) (l := c :: r) (by simp only [List.length_cons]; omega)
 cases h : stepM (r.length + 1 + 1) (1, 1) (c :: r) with
 | error e => rw [h] at hs; rw [← hs]; rfl
 | ok x =>
   obtain ⟨t, r1, q⟩ := x
   rw [h] at hs
   rw [← hs]
   simp only [eStep]
   have hl := stepM_short h
   simp only [List.length_cons] at hl
   have := scO_of (F := r.length + 1 + 1) (n := r.length) (p := q) (l := r1) (by omega) (by omega)
   unfold scO at this
   rw [← this]
   cases scanM (r.length + 1 + 1) r.length q r1 with
   | error e => rfl
   | ok l => simp [eScan]
theorem stO_short {l r : List UInt8} {t : List Tok} (h : stO l = some (t, r)) : r.length < l.length := by
 unfold stO at h
 cases e : stepM l.length (1, 1) l with
 | error e' => rw [e] at h; cases h
 | ok x =>
   obtain ⟨t', r', q⟩ := x
   rw [e] at h
   simp only [eStep, Option.some.injEq, Prod.mk.injEq] at h
   rw [← h.2]
   exact stepM_short e
/-! A text behind another. -/
theorem comM_app (b : List UInt8) : ∀ (l : List UInt8) (p : Ps), (comM p (l ++ 10 :: b)).1 = (comM p l).1 ++ 10 :: b
 | [], p => by simp [comM]
 | c :: r, p => by
   simp only [List.cons_append, comM]
   split
   · exact comM_app b r _
   · rfl
theorem spanM_app (b : List UInt8) : ∀ (l : List UInt8) (p : Ps), (spanM p (l ++ 10 :: b)).1 = (spanM p l).1 ∧ (spanM p (l ++ 10 :: b)).2.1 = (spanM p l).2.1 ++ 10 :: b
 | [], p => by
   have : decide (Lib.indexByte endsB 10 < 0) = false := by decide
   simp [spanM, this]
 | c :: r, p => by
   simp only [List.cons_append, spanM]
   split
   · have ih := spanM_app b r (adv c p)
     exact ⟨by simp only [ih.1], ih.2⟩
   · exact ⟨rfl, rfl⟩
theorem escM_app {p q : Ps} {l r : List UInt8} {x : UInt8} (t : List UInt8) (h : escM p l = .ok (x, r, q)) : escM p (l ++ t) = .ok (x, r ++ t, q) := by
 cases l with
 | nil => cases h
 | cons c l =>
   simp only [escM, List.cons_append] at h ⊢
   split at h
   · rename_i h1; rw [if_pos h1]; cases h; rfl
   · rename_i h1
     rw [if_neg h1]
     split at h
     · rename_i h2; rw [if_pos h2]; cases h; rfl
     · rename_i h2
       rw [if_neg h2]
       split at h
       · rename_i h3; rw [if_pos h3]; cases h; rfl
       · rename_i h3
         rw [if_neg h3]
         split at h
         · rename_i h4
           rw [if_pos h4]
           rcases l with _ | ⟨a, _ | ⟨d, l⟩⟩
           · cases h
           · cases h
           · simp only [List.cons_append] at h ⊢
             split at h
             · rename_i h5; rw [if_pos h5]; cases h; rfl
             · cases h
         · cases h
theorem strM_app {s : Ps} (t : List UInt8) : ∀ (F : Nat) (p : Ps) (acc l tx r : List UInt8) (q : Ps), strM s F p acc l = .ok (tx, r, q) → strM s F p acc (l ++ t) = .ok (tx, r ++ t, q)
 | 0, _, _, _, _, _, _, h => by cases h
 | F + 1, p, acc, [], tx, r, q, h => by cases h
 | F + 1, p, acc, c :: l, tx, r, q, h => by
   rw [List.cons_append]
   rw [strM_cons] at h ⊢
   split at h
   · rename_i h1
     rw [if_pos h1]
     split at h
     · cases h
     · rename_i h2; rw [if_neg h2]; cases h; rfl
   · rename_i h1
     rw [if_neg h1]
     split at h
     · cases h
     · rename_i h2
       rw [if_neg h2]
       split at h
       · rename_i h3; rw [if_pos h3]; exact strM_app t F _ _ l tx r q h
       · rename_i h3
         rw [if_neg h3]
         cases l with
         | nil => cases h
         | cons d l =>
           simp only [] at h
           split at h
           · cases h
           · rename_i he
             have := escM_app t he
             rw [List.cons_append] at this ⊢
             simp only [this]
             exact strM_app t F _ _ _ tx r q h
theorem stO_app {l r : List UInt8} {t : List Tok} (b : List UInt8) (h : stO l = some (t, r)) : stO (l ++ 10 :: b) = some (t, r ++ 10 :: b) := by
 rw [← stO_of (F := (l ++ 10 :: b).length) (p := (1, 1)) (l := l) (by simp)] at h
 unfold stO
 generalize (l ++ 10 :: b).length = F at h ⊢
 cases l with
 | nil => cases h
 | cons c l =>
   rw [List.cons_append]
   rw [stepM_cons] at h ⊢
   split at h
   · rename_i h1; rw [if_pos h1]; simp only [eStep, Option.some.injEq, Prod.mk.injEq] at h ⊢; rw [← h.1, ← h.2]; exact ⟨rfl, rfl⟩
   · rename_i h1
     rw [if_neg h1]
     split at h
     · rename_i h2
       rw [if_pos h2]
       simp only [eStep, Option.some.injEq, Prod.mk.injEq] at h ⊢
       rw [← h.1, ← h.2]
       exact ⟨rfl, comM_app b l _⟩
     · rename_i h2
       rw [if_neg h2]
       split at h
       · rename_i h3; rw [if_pos h3]; simp only [eStep, Option.some.injEq, Prod.mk.injEq] at h ⊢; rw [← h.1, ← h.2]; exact ⟨rfl, rfl⟩
       · rename_i h3
         rw [if_neg h3]
         split at h
         · rename_i h4; rw [if_pos h4]; simp only [eStep, Option.some.injEq, Prod.mk.injEq] at h ⊢; rw [← h.1, ← h.2]; exact ⟨rfl, rfl⟩
         · rename_i h4
           rw [if_neg h4]
           split at h
           · rename_i h5
             rw [if_pos h5]
             cases e : strM (1, 1) F (adv c (1, 1)) [] l with
             | error e' => rw [e] at h; cases h
             | ok x =>
               obtain ⟨tx, r1, q⟩ := x
               rw [e] at h
               rw [strM_app (10 :: b) F _ _ _ _ _ _ e]
               simp only [eStep, Option.some.injEq, Prod.mk.injEq] at h ⊢
               rw [← h.1, ← h.2]; exact ⟨rfl, rfl⟩
           · rename_i h5
             rw [if_neg h5]
             have ha := spanM_app b l (adv c (1, 1))
             rw [ha.1]
             cases e : wordM (c :: (spanM (adv c (1, 1)) l).1) with
             | none => rw [e] at h; cases h
             | some x =>
               obtain ⟨k, nm, tx⟩ := x
               rw [e] at h
               simp only [eStep, Option.some.injEq, Prod.mk.injEq] at h ⊢
               rw [← h.1, ← h.2]; exact ⟨rfl, ha.2⟩
theorem stO_bad {c : UInt8} {l : List UInt8} (b : List UInt8) (hc : ((c.toNat : Int) == 34) = false) (h : stO (c :: l) = none) : stO (c :: l ++ 10 :: b) = none := by
 rw [← stO_of (F := (c :: l ++ 10 :: b).length) (p := (1, 1)) (l := c :: l) (by simp)] at h
 unfold stO
 generalize (c :: l ++ 10 :: b).length = F at h ⊢
 rw [List.cons_append]
 rw [stepM_cons] at h ⊢
 split at h
 · cases h
 · rename_i h1
   rw [if_neg h1]
   split at h
   · cases h
   · rename_i h2
     rw [if_neg h2]
     split at h
     · cases h
     · rename_i h3
       rw [if_neg h3]
       split at h
       · cases h
       · rename_i h4
         rw [if_neg h4]
         split at h
         · rename_i h5; rw [hc] at h5; cases h5
         · rename_i h5
           rw [if_neg h5]
           have ha := spanM_app b l (adv c (1, 1))
           rw [ha.1]
           cases e : wordM (c :: (spanM (adv c (1, 1)) l).1) with
           | none => rfl
           | some x => rw [e] at h; cases h
theorem scO_blank (b : List UInt8) : scO (10 :: b) = scO b := by
 rw [scO_cons]
 have : stO (10 :: b) = some ([], b) := rfl
 rw [this]
 simp
theorem scO_app (b : List UInt8) : ∀ (n : Nat) (a : List UInt8) (ta : List Tok), a.length ≤ n → scO a = some ta → scO (a ++ 10 :: b) = (scO b).map (ta ++ ·)
 | n, [], ta, _, h => by
   rw [scO_nil] at h
   cases h
   rw [List.nil_append, scO_blank]
   simp
 | 0, c :: a, ta, hn, _ => by simp at hn
 | n + 1, c :: a, ta, hn, h => by
   rw [scO_cons] at h
   cases hs : stO (c :: a) with
   | none => rw [hs] at h; cases h
   | some x =>
     obtain ⟨t, r⟩ := x
     rw [hs] at h
     simp only at h
     have hl := stO_short hs
     have hs' := stO_app b hs
     simp only [List.length_cons] at hn hl
     cases hr : scO r with
     | none => rw [hr] at h; cases h
     | some tr =>
       rw [hr] at h
       cases h
       rw [List.cons_append] at hs' ⊢
       rw [scO_cons, hs']
       simp only []
       rw [scO_app b n r tr (by omega) hr]
       cases scO b <;> simp
/-! Brackets, as bytes and as tokens. -/
def brk (k : Int) : Int := if k == 40 then 1 else if k == 41 then -1 else 0
def cntB : List UInt8 → Int
 | [] => 0
 | c :: l => brk c.toNat + cntB l
theorem cntB_app : ∀ a b : List UInt8, cntB (a ++ b) = cntB a + cntB b
 | [], b => by simp [cntB]
 | c :: a, b => by simp only [List.cons_append, cntB, cntB_app a b]; omega
theorem opens_app : ∀ a b : List Tok, opens (a ++ b) = opens a + opens b
 | [], b => by simp [opens]
 | t :: a, b => by
   have h := opens_app a b
   have e : ∀ l, opens (t :: l) = opens l + (if t.k == 0 then 1 else if t.k == 1 then -1 else 0) := fun l => rfl
   rw [List.cons_append, e, e, h]
   omega
def noQ (l : List UInt8) : Prop := ∀ c ∈ l, ((c.toNat : Int) == 34) = false ∧ ((c.toNat : Int) == 59) = false
theorem ends_not {c : UInt8} (h : decide (Lib.indexByte endsB c < 0) = true) : brk c.toNat = 0 := by
 have key : ∀ c : UInt8, (decide (Lib.indexByte endsB c < 0) = true → brk c.toNat = 0) := by
   intro c hc
   unfold brk
   split
   · rename_i h1
     have : c = 40 := UInt8.toNat_inj.1 (by have := beq_iff_eq.1 h1; simp; omega)
     subst this
     exact absurd hc (by decide)
   · split
     · rename_i h1
       have : c = 41 := UInt8.toNat_inj.1 (by have := beq_iff_eq.1 h1; simp; omega)
       subst this
       exact absurd hc (by decide)
     · rfl
 exact key c h
theorem spanM_parts : ∀ (l : List UInt8) (p : Ps), (spanM p l).1 ++ (spanM p l).2.1 = l ∧ cntB (spanM p l).1 = 0
 | [], _ => ⟨rfl, rfl⟩
 | c :: r, p => by
   simp only [spanM]
   split
   · rename_i h
     have ih := spanM_parts r (adv c p)
     refine ⟨by simp only [List.cons_append, ih.1], ?_⟩
     simp only [cntB, ih.2, ends_not h]
     rfl
   · exact ⟨rfl, rfl⟩
theorem blank_not {c : UInt8} (h : decide ((0 : Int) ≤ Lib.indexByte blanksB c) = true) : brk c.toNat = 0 := by
 unfold brk
 split
 · rename_i h1
   have : c = 40 := UInt8.toNat_inj.1 (by have := beq_iff_eq.1 h1; simp; omega)
   subst this
   exact absurd h (by decide)
 · split
   · rename_i h1
     have : c = 41 := UInt8.toNat_inj.1 (by have := beq_iff_eq.1 h1; simp; omega)
     subst this
     exact absurd h (by decide)
   · rfl
theorem stO_cnt {l r : List UInt8} {t : List Tok} (hq : noQ l) (h : stO l = some (t, r)) : noQ r ∧ cntB l = opens t + cntB r := by
 unfold stO at h
 cases l with
 | nil => cases h
 | cons c l =>
   have hc := hq c (.head _)
   have hl : noQ l := fun x hx => hq x (.tail _ hx)
   rw [stepM_cons] at h
   split at h
   · rename_i h1
     simp only [eStep, Option.some.injEq, Prod.mk.injEq] at h
     rw [← h.1, ← h.2]
     refine ⟨hl, ?_⟩
     simp only [cntB, blank_not h1]
     rfl
   · split at h
     · rename_i h2; rw [hc.2] at h2; cases h2
     · split at h
       · rename_i h3
         simp only [eStep, Option.some.injEq, Prod.mk.injEq] at h
         rw [← h.1, ← h.2]
         refine ⟨hl, ?_⟩
         have hb : brk c.toNat = 1 := by unfold brk; rw [if_pos h3]
         simp only [cntB, hb]
         rfl
       · rename_i h3
         split at h
         · rename_i h4
           simp only [eStep, Option.some.injEq, Prod.mk.injEq] at h
           rw [← h.1, ← h.2]
           refine ⟨hl, ?_⟩
           have hb : brk c.toNat = -1 := by unfold brk; rw [if_neg h3, if_pos h4]
           simp only [cntB, hb]
           rfl
         · rename_i h4
           split at h
           · rename_i h5; rw [hc.1] at h5; cases h5
           · have hb : brk c.toNat = 0 := by unfold brk; rw [if_neg h3, if_neg h4]
             have hp := spanM_parts l (adv c (1, 1))
             cases e : wordM (c :: (spanM (adv c (1, 1)) l).1) with
             | none => rw [e] at h; cases h
             | some x =>
               obtain ⟨k, nm, tx⟩ := x
               rw [e] at h
               simp only [eStep, Option.some.injEq, Prod.mk.injEq] at h
               have hk := (wordM_ok (by simp) e).2.2
               have h0 : opens t = 0 := by
                 rw [← h.1]
                 have e1 : (k == 0) = false := by simpa using hk.1
                 have e2 : (k == 1) = false := by simpa using hk.2
                 simp [opens, Tok.er, hk.1, hk.2]
               rw [← h.2, h0]
               have e3 : cntB l = cntB (spanM (adv c (1, 1)) l).2.1 := by
                 have := congrArg cntB hp.1
                 rw [cntB_app, hp.2] at this
                 omega
               refine ⟨fun x hx => hl x (by rw [← hp.1]; exact List.mem_append_right _ hx), ?_⟩
               simp only [cntB, hb]
               rw [e3]
theorem scO_cnt : ∀ (n : Nat) (a : List UInt8) (ta : List Tok), a.length ≤ n → noQ a → scO a = some ta → opens ta = cntB a
 | n, [], ta, _, _, h => by rw [scO_nil] at h; cases h; rfl
 | 0, c :: a, ta, hn, _, _ => by simp at hn
 | n + 1, c :: a, ta, hn, hq, h => by
   rw [scO_cons] at h
   cases hs : stO (c :: a) with
   | none => rw [hs] at h; cases h
   | some x =>
     obtain ⟨t, r⟩ := x
     rw [hs] at h
     simp only at h
     have hl := stO_short hs
     have hc := stO_cnt hq hs
     simp only [List.length_cons] at hn hl
     cases hr : scO r with
     | none => rw [hr] at h; cases h
     | some tr =>
       rw [hr] at h
       cases h
       rw [opens_app, hc.2, scO_cnt n r tr (by omega) hc.1 hr]
theorem scO_bad (b : List UInt8) : ∀ (n : Nat) (a : List UInt8), a.length ≤ n → noQ a → scO a = none → scO (a ++ 10 :: b) = none
 | n, [], _, _, h => by rw [scO_nil] at h; cases h
 | 0, c :: a, hn, _, _ => by simp at hn
 | n + 1, c :: a, hn, hq, h => by
   rw [scO_cons] at h
   cases hs : stO (c :: a) with
   | none =>
     have := stO_bad b (hq c (.head _)).1 hs
     rw [List.cons_append] at this ⊢
     rw [scO_cons, this]
   | some x =>
     obtain ⟨t, r⟩ := x
     rw [hs] at h
     simp only at h
     have hl := stO_short hs
     have hc := stO_cnt hq hs
     have hs' := stO_app b hs
     simp only [List.length_cons] at hn hl
     cases hr : scO r with
     | some tr => rw [hr] at h; cases h
     | none =>
       have ih := scO_bad b n r (by omega) hc.1 hr
       rw [List.cons_append] at hs' ⊢
       rw [scO_cons, hs']
       simp only []
       rw [ih]
       rfl
/-! Texts as nodes. -/
def pO (n : Nat) (l : List UInt8) : Option Nd := match scO l with
 | none => none
 | some t => match parsM n t with
   | .error _ => none
   | .ok x => some x
theorem pO_app {n : Nat} {a b : List UInt8} {x : Nd} (h : pO n a = some x) : pO n (a ++ 10 :: b) = (pO n b).map (x.app ·) := by
 unfold pO at h ⊢
 cases ha : scO a with
 | none => rw [ha] at h; cases h
 | some ta =>
   rw [ha] at h
   simp only at h
   rw [scO_app b a.length a ta (Nat.le_refl _) ha]
   cases hb : scO b with
   | none => rfl
   | some tb =>
     simp only [Option.map_some]
     cases hp : parsM n ta with
     | error e => rw [hp] at h; cases h
     | ok y =>
       rw [hp] at h
       cases h
       rw [parsM_ok hp]
       cases parsM n tb <;> rfl
theorem pO_bad {n : Nat} {a b : List UInt8} {z : Nd} (hq : noQ a) (h0 : cntB a = 0) (h : pO n (a ++ 10 :: b) = some z) : (∃ x, pO n a = some x) ∧ ∃ y, pO n b = some y := by
 have ha : ∃ x, pO n a = some x := by
   cases hp : pO n a with
   | some x => exact ⟨x, rfl⟩
   | none =>
     exfalso
     unfold pO at hp h
     cases hs : scO a with
     | none =>
       rw [scO_bad b a.length a (Nat.le_refl _) hq hs] at h
       cases h
     | some ta =>
       rw [hs] at hp
       simp only at hp
       rw [scO_app b a.length a ta (Nat.le_refl _) hs] at h
       cases hb : scO b with
       | none => rw [hb] at h; cases h
       | some tb =>
         rw [hb] at h
         simp only [Option.map_some] at h
         cases hpa : parsM n ta with
         | ok x => rw [hpa] at hp; cases hp
         | error e =>
           obtain ⟨e', he⟩ := parsM_bad (tb := tb) (by rw [scO_cnt a.length a ta (Nat.le_refl _) hq hs, h0]) hpa
           rw [he] at h
           cases h
 obtain ⟨x, hx⟩ := ha
 refine ⟨⟨x, hx⟩, ?_⟩
 rw [pO_app hx] at h
 cases hb : pO n b with
 | some y => exact ⟨y, rfl⟩
 | none => rw [hb] at h; cases h
/-- What Program tells, but for places. -/
theorem progM_pO (n : Nat) (src : List UInt8) (hl : src.length ≤ 65536) :
   (∀ x, pO n src = some x → (progM n (lexM src)).1.er = x ∧ (progM n (lexM src)).2.2.2 = 0) ∧ (pO n src = none → (progM n (lexM src)).2.2.2 ≠ 0) := by
 have hlx : lexM src = (match scanM (src.length + 1) src.length (1, 1) src with
   | .error e => .error (e.1, e.2, 10)
   | .ok l => .ok l) := by
   unfold lexM
   rw [if_neg (by simp; omega)]
   rfl
 rw [hlx]
 unfold pO scO
 cases scanM (src.length + 1) src.length (1, 1) src with
 | error e => exact ⟨fun x h => (by cases h), fun _ => by simp [progM]⟩
 | ok l =>
   simp only [eScan]
   rw [parsM_er]
   unfold progM parsM
   simp only []
   cases treesM l [] .nil with
   | error e => exact ⟨fun x h => (by cases h), fun _ => by simp⟩
   | ok fo =>
     simp only []
     cases eachM (topM n) fo with
     | error e => exact ⟨fun x h => (by cases h), fun _ => by simp⟩
     | ok nds => exact ⟨fun x h => by cases h; exact ⟨rfl, rfl⟩, fun h => by cases h⟩
end Go.SP
namespace Go.SP
open Go.SW Go.RowKit
def NAt (U : Nat → Prop) (w : World) (a : Option Addr) (i : Nat) (r : Nd) : Prop :=
 r = .nil ∨ ∃ b off l T, U b ∧ a = some ⟨b, off, none⟩ ∧ Blk w b l T ∧ NdC U w r (l.drop (off + i * 6))
theorem NdS.nat {U : Nat → Prop} {w : World} {a : Option Addr} {n c : Nat} {x : Nd} (h : NdS U w a n c x) : NAt U w a 0 x := by
 obtain ⟨h1, h2, h3 | ⟨b, off, l, T, hu, ha, hb, hc⟩⟩ := h
 · left; cases x with
   | nil => rfl
   | cons _ _ _ _ _ _ _ => rw [h3] at h1; cases h1
 · exact .inr ⟨b, off, l, T, hu, ha, hb, by simpa using hc⟩
theorem NAt.ext {U : Nat → Prop} {w w' : World} {a : Option Addr} {i : Nat} {r : Nd} (h : NAt U w a i r) (hE : Ext w w') : NAt U w' a i r :=
 h.imp id fun ⟨b, off, l, T, hu, ha, hb, hc⟩ => ⟨b, off, l, T, hu, ha, hb.ext hE, hc.ext hE⟩
theorem NAt.head {U : Nat → Prop} {w : World} {a : Option Addr} {i : Nat} {op ln co nm : Int} {tx : List UInt8} {kids r : Nd} (h : NAt U w a i (.cons op ln co tx nm kids r)) : ∃ b off l T ka kn kc l', U b ∧ a = some ⟨b, off, none⟩ ∧ Blk w b l T ∧
   l.drop (off + i * 6) = .int .i64 op :: .int .i64 ln :: .int .i64 co :: S tx :: .int .i64 nm :: .slice ka kn kc :: l' ∧ NdS U w ka kn kc kids := by
 rcases h with h | ⟨b, off, l, T, hu, ha, hb, ka, kn, kc, l', h4, h5, h6⟩
 · cases h
 · exact ⟨b, off, l, T, ka, kn, kc, l', hu, ha, hb, h4, h5⟩
theorem NAt.next {U : Nat → Prop} {w : World} {a : Option Addr} {i : Nat} {op ln co nm : Int} {tx : List UInt8} {kids r : Nd} (h : NAt U w a i (.cons op ln co tx nm kids r)) : NAt U w a (i + 1) r := by
 rcases h with h | ⟨b, off, l, T, hu, ha, hb, ka, kn, kc, l', h4, h5, h6⟩
 · cases h
 · refine .inr ⟨b, off, l, T, hu, ha, hb, ?_⟩
   have : l.drop (off + (i + 1) * 6) = l' := by
     rw [show off + (i + 1) * 6 = (off + i * 6) + 6 by omega, ← List.drop_drop, h4]; rfl
   rw [this]; exact h6
theorem Nd.er_len : ∀ x : Nd, x.er.len = x.len
 | .nil => rfl
 | .cons _ _ _ _ _ _ r => by simp only [Nd.er, Nd.len, Nd.er_len r]
def FromF (P : Program) (f : FuncId) (e : TypeId) (m : Nat) : Prop := ∀ (w : World) (U : Nat → Prop) (nds : Nd) (a : Option Addr) (n c : Nat), nds.size < m → nds.bnd → nds.len ≤ 200000 → NdS U w a n c nds →
 Ret P f #[.slice a n c] w fun v w' => ∃ ra rc, v = .slice ra nds.len rc ∧ NRow e w w' ra nds.len rc nds ∧ Ext w w'
def SameF (P : Program) (f : FuncId) (m : Nat) : Prop := ∀ (w : World) (U V : Nat → Prop) (x y : Nd) (a : Option Addr) (n c : Nat) (a2 : Option Addr) (n2 c2 : Nat), x.size < m → x.len ≤ 1000000 → x.bnd → x.er = y.er → NdS U w a n c x → NdS V w a2 n2 c2 y →
 Ret P f #[.slice a n c, .slice a2 n2 c2, .bool false] w fun v w' => v = .bool true ∧ Ext w w'
theorem by_size {p : Nat → Prop} (h0 : p 0) (h : ∀ m, p m → p (m + 1)) (m : Nat) : p m := by
 induction m with
 | zero => exact h0
 | succ m ih => exact h m ih
end Go.SP
namespace Go.SW
open Go.RowKit
theorem rn_app0 {P : Program} {σ : Env} {w : World} {ty T : TypeId} {x y : Operand} {e : TypeId} {size bytes : Nat} {zl : List Value} (hT : apI P T = some (e, size, bytes, zl)) {a b : Option Addr} {c k cs : Nat}
   (hs : ev σ x = some (.slice a k c)) (hx : ev σ y = some (.slice b 0 cs)) (hk : k ≤ c) : Runs P σ (.call { callee := .builtin .append, args := #[x, y], argTypes := #[T, T] }) ty w (.slice a k c) w := by
 unfold apI at hT
 split at hT
 · rename_i e' hu
   split at hT
   · rename_i i hi
     intro ρ _ _ _ _ hρ
     have h0 : (Builtin.firstCells i.size 0 (.slice b 0 cs)).run P w = .ok #[] w := by
       cases b with
       | none => simp [Builtin.firstCells]
       | some q => simp only [Builtin.firstCells, Nat.zero_mul]; exact run_loadCells_list (P := P) w q [] (fun j v hj => by simp at hj)
     have h1 : ∀ q : Addr, (storeCells q []).run P w = .ok () w := fun q => by simp [storeCells]
     cases a with
     | none => simp [execOp, resolve, invoke, builtin, hρ _ _ hs, hρ _ _ hx, Builtin.append_, run_underlying hu, sizeOf, typeInfo, hi, Builtin.lenOf, hk, h0]
     | some q => simp [execOp, resolve, invoke, builtin, hρ _ _ hs, hρ _ _ hx, Builtin.append_, run_underlying hu, sizeOf, typeInfo, hi, Builtin.lenOf, hk, h0, h1]
   · cases hT
 · cases hT
end Go.SW
namespace Go.SP
open Go.SW Go.RowKit
theorem NdS.lt {U : Nat → Prop} {w : World} {a : Option Addr} {n c : Nat} {x : Nd} (h : NdS U w a n c x) : NdS (fun b => U b ∧ b < w.heap.size) w a n c x := NdS.imp h fun _ hu hl => ⟨⟨hu, hl⟩, rfl⟩
theorem NdS.grow {U : Nat → Prop} {w w' : World} {a q q' : Option Addr} {n c : Nat} {x : Nd} (h : NdS U w a n c x) (hG : Grow q w q' w') (hne : ∀ b, U b → some b ≠ rb q) : NdS U w' a n c x :=
 NdS.imp h fun b hu hl => ⟨hu, hG.block b hl (hne b hu)⟩
theorem Grow.refl (a : Option Addr) (w : World) : Grow a w a w := ⟨rfl, rfl, rfl, Nat.le_refl _, fun _ _ _ => rfl, .inl rfl⟩
section
variable {P : Program} {n : Nat} {Q : Post} {σ : Env} {ds : List Deferred} {w w0 w1 : World} {ops : Array Oper} {ty T : TypeId} {pos : String} {af : Array Edge} {rest : List Oper} {d : Nat} {x y : Operand}
theorem ewl_appN {e : TypeId} {bytes : Nat} {zl : List Value} {a b : Option Addr} {k c m cs : Nat} {X Y : Nd} (hd : Nat.blt d n = true) (hT : apI P T = some (e, 6, bytes, zl)) (hzl : Nat.beq zl.length 6 = true) (hs : ev σ x = some (.slice a k c)) (hx : ev σ y = some (.slice b m cs))
   (hX : NRow e w0 w a k c X) (hY : NRow e w1 w b m cs Y) (h01 : w0.heap.size ≤ w1.heap.size) (h1 : ∀ q, rb a = some q → q < w1.heap.size) (h1w : w1.heap.size ≤ w.heap.size) (h47 : (k + m) * bytes ≤ 140737488355328) (h63 : k + m ≤ 9223372036854775807)
   (h : ∀ a' c' w', NRow e w0 w' a' (k + m) c' (X.app Y) → Grow a w a' w' → EWL P n ops Q rest (upd σ d (.slice a' (k + m) c')) ds w') :
   EWL P n ops Q (⟨some d, .call { callee := .builtin .append, args := #[x, y], argTypes := #[T, T] }, ty, pos, af, none⟩ :: rest) σ ds w := by
 rcases Nat.eq_zero_or_pos m with hm | hm
 · subst hm
   have hY0 : Y = .nil := by cases Y with | nil => rfl | cons _ _ _ _ _ _ _ => have := hY.len; simp [Nd.len] at this
   subst hY0
   obtain ⟨xs, hrow, _⟩ := hX.ex
   refine ewl_run hd (rn_app0 hT hs hx hrow.n_le) (h a c w ?_ (Grow.refl a w))
   rw [Nd.app_nil]; exact hX
 · obtain ⟨xs, hrow, hxs⟩ := hX.ex
   obtain ⟨b2, l, ys, rfl, hb, hl, hyl, hy⟩ := hY.rowBlk hm
   have hyl2 : ys.length = Y.len * 6 := by rw [hyl, hY.len]
   have hm2 : m = Y.len := hY.len
   refine ewl_app hd hT hzl (by rfl) hs hx hrow hb hl hyl (NdC.one Y ys hy hyl2) hm h47 (fun a' c' w' hr hG => h a' c' w' ?_ hG) h63
   rw [hm2] at hr ⊢
   exact NRow.join hrow hxs hX.len hX.new hy (fun q hq => ⟨by have := hq.1; omega, fun e => by have := h1 q e.symm; have := hq.1; omega⟩) (by omega) hr hG
end
/-! Pieces. -/
theorem Nd.er_app' (x y : Nd) : (x.app y).er = x.er.app y.er := Nd.er_app x y
theorem pieces_ok {a b : List UInt8} (ha : a.length ≤ 2000) (hb : b.length ≤ 2000) (he : ((progM 200 (lexM a)).2.2.2 == 0) = true) (hf : ((progM 200 (lexM b)).2.2.2 == 0) = true) :
   (progM 200 (lexM (a ++ [10] ++ b))).2.2.2 = 0 ∧ (progM 200 (lexM (a ++ [10] ++ b))).1.er = ((progM 200 (lexM a)).1.app (progM 200 (lexM b)).1).er := by
 have h1 := progM_pO 200 a (by omega)
 have h2 := progM_pO 200 b (by omega)
 have e : a ++ [10] ++ b = a ++ 10 :: b := by simp
 rw [e]
 have h3 := progM_pO 200 (a ++ 10 :: b) (by simp; omega)
 replace he := beq_iff_eq.1 he
 replace hf := beq_iff_eq.1 hf
 cases hx : pO 200 a with
 | none => exact absurd he (h1.2 hx)
 | some x =>
   cases hy : pO 200 b with
   | none => exact absurd hf (h2.2 hy)
   | some y =>
     have h4 := pO_app (b := b) hx
     rw [hy] at h4
     have h5 := h3.1 _ h4
     exact ⟨h5.2, by rw [h5.1, Nd.er_app, (h1.1 x hx).1, (h2.1 y hy).1]⟩
theorem pieces_bad {a b : List UInt8} (ha : a.length ≤ 2000) (hb : b.length ≤ 2000) (hq : noQ a) (h0 : cntB a = 0) (hg : (progM 200 (lexM (a ++ [10] ++ b))).2.2.2 = 0) : (progM 200 (lexM a)).2.2.2 = 0 ∧ (progM 200 (lexM b)).2.2.2 = 0 := by
 have e : a ++ [10] ++ b = a ++ 10 :: b := by simp
 rw [e] at hg
 have h3 := progM_pO 200 (a ++ 10 :: b) (by simp; omega)
 cases hz : pO 200 (a ++ 10 :: b) with
 | none => exact absurd hg (h3.2 hz)
 | some z =>
   obtain ⟨⟨x, hx⟩, y, hy⟩ := pO_bad hq h0 hz
   exact ⟨((progM_pO 200 a (by omega)).1 x hx).2, ((progM_pO 200 b (by omega)).1 y hy).2⟩
theorem cntB_le : ∀ l : List UInt8, -(l.length : Int) ≤ cntB l ∧ cntB l ≤ l.length
 | [] => by simp [cntB]
 | c :: l => by
   have := cntB_le l
   have hb : -1 ≤ brk c.toNat ∧ brk c.toNat ≤ 1 := by unfold brk; split <;> (try split) <;> omega
   simp only [cntB, List.length_cons]
   omega
theorem take_snoc {l : List UInt8} {i : Nat} {c : UInt8} (h : l[i]? = some c) : l.take (i + 1) = l.take i ++ [c] := by
 obtain ⟨hl, he⟩ := List.getElem?_eq_some_iff.1 h
 rw [List.take_succ_eq_append_getElem hl, he]
theorem noQ_snoc {l : List UInt8} {c : UInt8} (h : noQ l) (h1 : ((c.toNat : Int) == 34) = false) (h2 : ((c.toNat : Int) == 59) = false) : noQ (l ++ [c]) := fun x hx => by
 rcases List.mem_append.1 hx with hx | hx
 · exact h x hx
 · rw [List.mem_singleton] at hx; subst hx; exact ⟨h1, h2⟩
end Go.SP
namespace Go.Proofs.YthjdnhnbgjgbkaaGreatDoor
open Go.SW Go.SP Go.RowKit
theorem ap30 : apI Tryz.prog 30 = some (51, 6, 72, [.int .i64 0, .int .i64 0, .int .i64 0, .string ⟨#[]⟩, .int .i64 0, .slice none 0 0]) := by kernel_rfl
theorem fl40_1 : fld Tryz.prog 40 1 = some 1 := by kernel_rfl
theorem fl40_3 : fld Tryz.prog 40 3 = some 4 := by kernel_rfl
theorem ent11 : Ent Tryz.prog 11 := ent_of Tryz.func11 (by kernel_rfl) (by kernel_rfl)
theorem pl51 : plc Tryz.prog 51 = some [(0, 1), (1, 2), (3, 1), (4, 1), (5, 1)] := by kernel_rfl
theorem zr51 : zer Tryz.prog 51 = some [.int .i64 0, .int .i64 0, .int .i64 0, .string ⟨#[]⟩, .int .i64 0, .slice none 0 0] := by kernel_rfl
theorem sl30 : sle Tryz.prog 30 = some (51, 6) := by kernel_rfl
theorem ti51 : tinfo Tryz.prog 51 = some (true, 6) := by kernel_rfl
theorem fl51_0 : fld Tryz.prog 51 0 = some 0 := by kernel_rfl
theorem fl51_2 : fld Tryz.prog 51 2 = some 3 := by kernel_rfl
theorem fl51_3 : fld Tryz.prog 51 3 = some 4 := by kernel_rfl
theorem fl51_4 : fld Tryz.prog 51 4 = some 5 := by kernel_rfl
theorem ti30 : tinfo Tryz.prog 30 = some (false, 1) := by kernel_rfl
theorem ent10 : Ent Tryz.prog 10 := ent_of Tryz.func10 (by kernel_rfl) (by kernel_rfl)
theorem from_step (m : Nat) (ih : FromF Tryz.prog 11 51 m) (w : World) (U : Nat → Prop) (nds : Nd) (a : Option Addr) (n c : Nat) (hm : nds.size < m + 1) (hbn : nds.bnd) (hlen : nds.len ≤ 200000) (hK : NdS U w a n c nds) :
   Ret Tryz.prog 11 #[.slice a n c] w fun v w' => ∃ ra rc, v = .slice ra nds.len rc ∧ NRow 51 w w' ra nds.len rc nds ∧ Ext w w' := by
 have hn : n = nds.len := hK.1
 have hX := Ext.refl w
 refine enter Tryz.func11 rfl rfl rfl ?_
 refine ewp_seq ?_
 refine ewp_reg ?_
 refine ewl_run rfl (rn_assign rfl) ?_
 refine ewl_nil ?_
 refine thn_n ?_
 refine ewp_seq ?_
 refine ewp_reg ?_
 refine ewl_run rfl (rn_assign rfl) ?_
 refine ewl_nil ?_
 refine thn_n ?_
 refine ewp_seq ?_
 refine ewp_seq ?_
 refine ewp_reg ?_
 refine ewl_run rfl (rn_assign rfl) ?_
 refine ewl_nil ?_
 refine thn_n ?_
 refine ewp_block ?_
 refine ewp_loop (fun k σ ds w' => ∃ (i : Nat) (r don : Nd) (ra : Option Addr) (rc : Nat), k = r.len ∧ ds = [] ∧ σ = (upd (upd (upd SW.e0 0 (.slice a n c)) 3 (.slice ra don.len rc)) 4 (.int .i64 (i : Int))) ∧ i + r.len = n ∧ don.len = i ∧ nds = don.app r ∧ r.bnd ∧ r.size ≤ nds.size ∧ NAt U w a i r ∧ NRow 51 w w' ra don.len rc don ∧ Ext w w') nds.len (upd (upd (upd SW.e0 0 (.slice a n c)) 3 (.slice none 0 0)) 4 (.int .i64 ((0 : Nat) : Int))) (le_upd (le_upd (le_upd (le_e0 _) rfl) rfl) rfl) ⟨0, nds, .nil, none, 0, rfl, rfl, rfl, by omega, rfl, rfl, hbn, Nat.le_refl _, hK.nat, NRow.nil _ _ _, hX⟩ ?_
 rintro _ _ _ wl ⟨i, r, don, ra, rc, rfl, rfl, rfl, hi, hnl, hap, hbr, hsz, hat, hN, hX⟩
 have szl := hX.size
 have hA1 := Ext.refl wl
 refine ewp_seq ?_
 refine ewp_seq ?_
 refine ewp_reg ?_
 refine ewl_run rfl (rn_move rfl) ?_
 refine ewl_run rfl (rn_move rfl) ?_
 refine ewl_run rfl (rn_len rfl sl23) ?_
 refine ewl_run rfl (rn_ltI rfl rfl) ?_
 refine ewl_nil ?_
 refine thn_n ?_
 refine ewp_if rfl (fun h1 => ?_) (fun h1 => ?_)
 refine ewp_skip ?_
 refine thn_n ?_
 refine ewp_seq ?_
 refine ewp_block ?_
 have hi2 : i < n := by simpa using h1
 rcases r with _ | ⟨op, ln, co, tx, nm, kids, r⟩
 · simp [Nd.len] at hi; omega
 simp only [Nd.len] at hi
 simp only [Nd.size] at hsz
 obtain ⟨b, off, cells, T, ka1, kn1, kc1, l1, hUb, rfl, hb, hd, hk1⟩ := hat.head
 have ltb := hb.lt
 have hr1 := (hb.ext hX)
 refine ewp_draw mixed (Keeps wl [b]) [(true, 0), (true, 1), (true, 2), (true, 3), (true, 4), (true, 5), (true, 6), (true, 7), (true, 8), (true, 9), (true, 10), (true, 11), (true, 12), (true, 13), (true, 14), (true, 15), (true, 16), (true, 17), (true, 18), (true, 19), (true, 20), (true, 21), (true, 22), (true, 23), (true, 24), (true, 25), (false, 26), (true, 27), (false, 28), (false, 29), (true, 30)] (by kernel_rfl) (by kernel_rfl) rfl rfl fun w1 hE1 hz1 => ?_
 have hKp : Keeps wl [b] w1 := Keeps.cons hr1 hE1 (Keeps.nil _ _)
 refine ⟨hKp, ?_⟩
 replace hX := hX.trans hE1
 replace hA1 := hA1.trans hE1
 refine ewo_rd rfl (fun _ hS => rn_move rfl) ?_
 refine ewo_rd rfl (fun _ hS => rn_move rfl) ?_
 refine ewo_rd rfl (fun _ hS => rn_move rfl) ?_
 refine ewo_rd rfl (fun _ hS => rn_ixc (i := i) rfl rfl sl23 hi2) ?_
 refine ewo_rd rfl (fun _ hS => rn_fa rfl fl40_0) ?_
 refine ewo_rd rfl (fun _ hS => rn_loadd 0 rfl ti3 (hr1.keep hS (.head _)) hd (by omega) rfl) ?_
 refine ewo_rd rfl (fun _ hS => rn_move rfl) ?_
 refine ewo_rd rfl (fun _ hS => rn_move rfl) ?_
 refine ewo_rd rfl (fun _ hS => rn_ixc (i := i) rfl rfl sl23 hi2) ?_
 refine ewo_rd rfl (fun _ hS => rn_fa rfl fl40_1) ?_
 refine ewo_rd rfl (fun _ hS => rn_loadad 1 rfl ti25 (hr1.keep hS (.head _)) hd (by omega) rfl) ?_
 refine ewo_rd rfl (fun _ hS => rn_move rfl) ?_
 refine ewo_rd rfl (fun _ hS => rn_move rfl) ?_
 refine ewo_rd rfl (fun _ hS => rn_ixc (i := i) rfl rfl sl23 hi2) ?_
 refine ewo_rd rfl (fun _ hS => rn_fa rfl fl40_2) ?_
 refine ewo_rd rfl (fun _ hS => rn_loadd 3 rfl ti9 (hr1.keep hS (.head _)) hd (by omega) rfl) ?_
 refine ewo_rd rfl (fun _ hS => rn_move rfl) ?_
 refine ewo_rd rfl (fun _ hS => rn_move rfl) ?_
 refine ewo_rd rfl (fun _ hS => rn_ixc (i := i) rfl rfl sl23 hi2) ?_
 refine ewo_rd rfl (fun _ hS => rn_fa rfl fl40_3) ?_
 refine ewo_rd rfl (fun _ hS => rn_loadd 4 rfl ti3 (hr1.keep hS (.head _)) hd (by omega) rfl) ?_
 refine ewo_rd rfl (fun _ hS => rn_move rfl) ?_
 refine ewo_rd rfl (fun _ hS => rn_move rfl) ?_
 refine ewo_rd rfl (fun _ hS => rn_ixc (i := i) rfl rfl sl23 hi2) ?_
 refine ewo_rd rfl (fun _ hS => rn_fa rfl fl40_4) ?_
 refine ewo_rd rfl (fun _ hS => rn_loadd 5 rfl ti23 (hr1.keep hS (.head _)) hd (by omega) rfl) ?_
 refine ewo_sp ?_
 refine ewl_ret rfl (en_call ent11 rfl rfl) (ih _ U kids ka1 kn1 kc1 (by omega) hbr.2.1 hbr.1 (hk1.ext hX)) ?_
 rintro _ w2 ⟨ka2, kc2, rfl, hkids, hE2⟩
 replace hX := hX.trans hE2
 replace hA1 := hA1.trans hE2
 replace hKp := hKp.ext hE2
 have sz1 := hE2.size
 have hA2 := Ext.refl w2
 refine ewl_nil (onw_n hKp ?_)
 refine ewo_rd rfl (fun _ hS => rn_build rfl pl51 zr51 rfl) ?_
 refine ewo_sp ?_
 refine ewl_bs rfl rfl sl30 zr51 rfl rfl rfl rfl rfl fun b1 w3 hb1 hE3 hs1 hz2 => ?_
 replace hX := hX.trans hE3
 replace hA1 := hA1.trans hE3
 replace hA2 := hA2.trans hE3
 replace hKp := hKp.ext hE3
 refine ewl_nil (onw_n hKp ?_)
 refine ewo_sp ?_
 have hN1 := (hN.ext hA1)
 have hk2 := (hkids.ext hA2)
 obtain ⟨xs, hrow, hxs⟩ := hN1.ex
 have hll : don.len ≤ 200000 := by omega
 refine ewl_app1 rfl ap30 rfl rfl rfl rfl hrow hb1 rfl rfl (by omega) (by omega) fun ra2 rc2 w4 hr2 hG1 => ?_
 have hl2 : (don.app (.cons op ln co tx nm kids .nil)).len = i + 1 := by rw [Nd.len_app, hnl]; rfl
 have hl3 : don.len + 1 = (don.app (.cons op ln co tx nm kids .nil)).len := by omega
 have hN2 := NRow.step hrow hxs rfl hN1.new hk2.nds (by omega) (by omega) (fun b hb => by have := (hN.ex.choose_spec.1).lt hb; omega) hr2 hG1
 replace hX := hX.grow hG1 hN.new
 replace hKp := hKp.grow hG1 (by simp only [List.mem_cons, List.not_mem_nil, or_false]; intro c hc e; have h1 := hN.new c e.symm; have h2 := (hN.ex.choose_spec.1).lt e.symm; omega)
 refine ewl_nil (onw_n hKp ?_)
 refine ewo_rd rfl (fun _ hS => rn_assign rfl) ?_
 refine ewo_nil ?_
 refine blk_n ?_
 refine thn_n ?_
 refine ewp_reg ?_
 refine ewl_run rfl (rn_move rfl) ?_
 refine ewl_run rfl (rn_add rfl rfl ⟨by omega, by omega⟩) ?_
 refine ewl_run rfl (rn_assign rfl) ?_
 refine ewl_nil ?_
 refine lp_n r.len (upd (upd (upd SW.e0 0 (.slice (some ⟨b, off, none⟩) n c)) 3 (.slice ra2 (don.app (.cons op ln co tx nm kids .nil)).len rc2)) 4 (.int .i64 ((i + 1 : Nat) : Int))) (by simp [Nd.len]) (le_upd (le_upd (le_upd (le_e0 _) rfl) (hl3 ▸ rfl)) rfl) ⟨i + 1, r, don.app (.cons op ln co tx nm kids .nil), ra2, rc2, rfl, rfl, rfl, by omega, hl2, by rw [hap, Nd.app_assoc]; rfl, hbr.2.2, by omega, hat.next, hl3 ▸ hN2, hX⟩
 refine ewp_exit ?_
 refine thn_e ?_
 refine lp_e ?_
 refine blk_e ?_
 refine thn_n ?_
 refine ewp_seq ?_
 refine ewp_reg ?_
 refine ewl_run rfl (rn_move rfl) ?_
 refine ewl_run rfl (rn_assign rfl) ?_
 refine ewl_nil ?_
 refine thn_n ?_
 refine ewp_ret ?_
 refine fn_r (resv rfl (rv_tmp rfl)) ?_
 have hz : r = .nil := by
   rcases r with _ | ⟨op, ln, co, tx, nm, kids, r⟩
   · rfl
   · simp [Nd.len] at hi; simp at h1; omega
 subst hz
 rw [Nd.app_nil] at hap
 subst hap
 exact ⟨ra, rc, rfl, (hN.ext hA1), hX⟩
theorem from_spec (w : World) (U : Nat → Prop) (nds : Nd) (a : Option Addr) (n c : Nat) (hbn : nds.bnd) (hlen : nds.len ≤ 200000) (hK : NdS U w a n c nds) :
   Ret Tryz.prog 11 #[.slice a n c] w fun v w' => ∃ ra rc, v = .slice ra nds.len rc ∧ NRow 51 w w' ra nds.len rc nds ∧ Ext w w' :=
 by_size (p := FromF Tryz.prog 11 51) (fun w U nds a n c h => by omega) (fun m ih w U nds a n c h1 h2 h3 h4 => from_step m ih w U nds a n c h1 h2 h3 h4) (nds.size + 1) w U nds a n c (Nat.lt_succ_self _) hbn hlen hK
theorem same_step (m : Nat) (ih : SameF Tryz.prog 10 m) (w : World) (U V : Nat → Prop) (x y : Nd) (a : Option Addr) (n c : Nat) (a2 : Option Addr) (n2 c2 : Nat) (hm : x.size < m + 1) (hlen : x.len ≤ 1000000) (hbn : x.bnd) (her : x.er = y.er) (hK : NdS U w a n c x) (hK2 : NdS V w a2 n2 c2 y) :
   Ret Tryz.prog 10 #[.slice a n c, .slice a2 n2 c2, .bool false] w fun v w' => v = .bool true ∧ Ext w w' := by
 have hn : n = x.len := hK.1
 have hn2 : n2 = y.len := hK2.1
 have hnn : x.len = y.len := by rw [← Nd.er_len x, her, Nd.er_len]
 have hX := Ext.refl w
 refine enter Tryz.func10 rfl rfl rfl ?_
 refine ewp_seq ?_
 refine ewp_reg ?_
 refine ewl_run rfl (rn_assign rfl) ?_
 refine ewl_nil ?_
 refine thn_n ?_
 refine ewp_seq ?_
 refine ewp_seq ?_
 refine ewp_reg ?_
 refine ewl_run rfl (rn_move rfl) ?_
 refine ewl_run rfl (rn_len rfl sl30) ?_
 refine ewl_run rfl (rn_move rfl) ?_
 refine ewl_run rfl (rn_len rfl sl30) ?_
 refine ewl_run rfl (rn_neI rfl rfl) ?_
 refine ewl_nil ?_
 refine thn_n ?_
 refine ewp_iff rfl (by simp [hn, hn2, hnn]) ?_
 refine ewp_skip ?_
 refine thn_n ?_
 refine ewp_seq ?_
 refine ewp_seq ?_
 refine ewp_reg ?_
 refine ewl_run rfl (rn_assign rfl) ?_
 refine ewl_nil ?_
 refine thn_n ?_
 refine ewp_block ?_
 refine ewp_loop (fun k σ ds w' => ∃ (i : Nat) (r q : Nd), k = r.len ∧ ds = [] ∧ σ = (upd (upd (upd (upd SW.e0 0 (.slice a n c)) 1 (.slice a2 n2 c2)) 2 (.bool false)) 7 (.int .i64 (i : Int))) ∧ i + r.len = n ∧ r.er = q.er ∧ r.bnd ∧ r.size ≤ x.size ∧ NAt U w a i r ∧ NAt V w a2 i q ∧ Ext w w') x.len (upd (upd (upd (upd SW.e0 0 (.slice a n c)) 1 (.slice a2 n2 c2)) 2 (.bool false)) 7 (.int .i64 ((0 : Nat) : Int))) (le_upd (le_upd (le_upd (le_upd (le_e0 _) rfl) rfl) rfl) rfl) ⟨0, x, y, rfl, rfl, rfl, by omega, her, hbn, Nat.le_refl _, hK.nat, hK2.nat, hX⟩ ?_
 rintro _ _ _ wl ⟨i, r, q, rfl, rfl, rfl, hi, her, hbr, hsz, hat, hat2, hX⟩
 have szl := hX.size
 refine ewp_seq ?_
 refine ewp_seq ?_
 refine ewp_reg ?_
 refine ewl_run rfl (rn_move rfl) ?_
 refine ewl_run rfl (rn_move rfl) ?_
 refine ewl_run rfl (rn_len rfl sl30) ?_
 refine ewl_run rfl (rn_ltI rfl rfl) ?_
 refine ewl_nil ?_
 refine thn_n ?_
 refine ewp_if rfl (fun h1 => ?_) (fun h1 => ?_)
 refine ewp_skip ?_
 refine thn_n ?_
 refine ewp_seq ?_
 refine ewp_block ?_
 refine ewp_seq ?_
 have hi2 : i < n := by simpa using h1
 have hi3 : i < n2 := by omega
 rcases r with _ | ⟨op, ln, co, tx, nm, kids, r⟩
 · simp [Nd.len] at hi; omega
 simp only [Nd.len] at hi
 simp only [Nd.size] at hsz
 rcases q with _ | ⟨op2, ln2, co2, tx2, nm2, kids2, q⟩
 · simp [Nd.er] at her
 simp only [Nd.er, Nd.cons.injEq, true_and] at her
 obtain ⟨rfl, rfl, rfl, hek, her⟩ := her
 obtain ⟨b, off, cells, T, ka1, kn1, kc1, l1, hUb, rfl, hb, hd, hk1⟩ := hat.head
 obtain ⟨c3, off2, cells2, T2, ka2, kn2, kc2, l2, hUb2, rfl, hb2, hd2, hk2⟩ := hat2.head
 have ltb := hb.lt
 have ltb2 := hb2.lt
 have hr1 := (hb.ext hX)
 have hr2 := (hb2.ext hX)
 refine ewp_drawt mixed (Keeps wl [b, c3]) (.rd 0 (.rd 1 (.rd 2 (.rd 3 (.rd 4 (.rd 5 (.rd 6 (.rd 7 (.br 8 (.br 9 (.br 10 (.br 11 .fin .fin) .fin) .fin) (.br 9 (.br 8 (.br 10 (.br 11 .fin .fin) .fin) .fin) .fin)))))))))) (by kernel_rfl) (by kernel_rfl) (by kernel_rfl) fun w1 hE1 hz1 => ?_
 have hKp : Keeps wl [b, c3] w1 := Keeps.cons hr1 hE1 (Keeps.cons hr2 hE1 (Keeps.nil _ _))
 refine ⟨hKp, ?_⟩
 replace hX := hX.trans hE1
 refine ewt_rd rfl rfl (fun _ hS => rn_move rfl) ?_
 refine ewt_rd rfl rfl (fun _ hS => rn_move rfl) ?_
 refine ewt_rd rfl rfl (fun _ hS => rn_ixc (i := i) rfl rfl sl30 hi2) ?_
 refine ewt_rd rfl rfl (fun _ hS => rn_loadad 0 rfl ti51 (hr1.keep hS (.head _)) hd (by omega) rfl) ?_
 refine ewt_rd rfl rfl (fun _ hS => rn_move rfl) ?_
 refine ewt_rd rfl rfl (fun _ hS => rn_move rfl) ?_
 refine ewt_rd rfl rfl (fun _ hS => rn_ixc (i := i) rfl rfl sl30 hi3) ?_
 refine ewt_rd rfl rfl (fun _ hS => rn_loadad 0 rfl ti51 (hr2.keep hS (.tail _ (.head _))) hd2 (by omega) rfl) ?_
 refine ewt_br rfl ?_ ?_
 refine ewl_alloc rfl zr51 fun b1 w2 hb1 hE2 hs1 hz2 => ?_
 replace hX := hX.trans hE2
 replace hKp := hKp.ext hE2
 refine ewl_nil (onwt_n hKp ?_)
 refine ewt_br rfl ?_ ewt_none
 refine ewl_alloc rfl zr51 fun b2 w3 hb2 hE3 hs2 hz3 => ?_
 replace hb1 := hb1.ext hE3
 replace hX := hX.trans hE3
 replace hKp := hKp.ext hE3
 refine ewl_nil (onwt_n hKp ?_)
 refine ewt_br rfl ?_ ewt_none
 refine ewl_store rfl rfl rfl ti51 rfl hb1 rfl rfl fun w4 hb3 hC1 => ?_
 replace hb2 := hb2.chg hC1 (by omega)
 replace hX := hX.chg hC1 (by omega)
 replace hKp := hKp.chg hC1 (by simp only [List.mem_cons, List.not_mem_nil, or_false]; omega)
 have sz1 := hC1.size
 refine ewl_nil (onwt_n hKp ?_)
 refine ewt_br rfl ?_ ewt_none
 refine ewl_store rfl rfl rfl ti51 rfl hb2 rfl rfl fun w5 hb4 hC2 => ?_
 replace hb3 := hb3.chg hC2 (by omega)
 replace hX := hX.chg hC2 (by omega)
 replace hKp := hKp.chg hC2 (by simp only [List.mem_cons, List.not_mem_nil, or_false]; omega)
 have sz2 := hC2.size
 refine ewl_nil (onwt_n hKp ?_)
 refine ewt_fin ?_
 refine thn_n ?_
 refine ewp_seq ?_
 refine ewp_reg ?_
 refine ewl_run rfl (rn_fa rfl fl51_0) ?_
 refine ewl_run rfl (rn_load rfl ti3 hb3 rfl) ?_
 refine ewl_run rfl (rn_fa rfl fl51_0) ?_
 refine ewl_run rfl (rn_load rfl ti3 hb4 rfl) ?_
 refine ewl_run rfl (rn_neI rfl rfl) ?_
 refine ewl_run rfl (rn_move rfl) ?_
 refine ewl_grd rfl rfl (by simp) ?_
 refine ewl_run rfl (rn_fa rfl fl51_2) ?_
 refine ewl_grd rfl rfl (by simp) ?_
 refine ewl_run rfl (rn_load rfl ti9 hb3 rfl) ?_
 refine ewl_grd rfl rfl (by simp) ?_
 refine ewl_run rfl (rn_fa rfl fl51_2) ?_
 refine ewl_grd rfl rfl (by simp) ?_
 refine ewl_run rfl (rn_load rfl ti9 hb4 rfl) ?_
 refine ewl_grd rfl rfl (by simp) ?_
 refine ewl_run rfl (rn_neS rfl rfl) ?_
 refine ewl_run rfl (rn_pickf rfl (by simp) rfl) ?_
 refine ewl_run rfl (rn_move rfl) ?_
 refine ewl_grd rfl rfl (by simp) ?_
 refine ewl_run rfl (rn_fa rfl fl51_3) ?_
 refine ewl_grd rfl rfl (by simp) ?_
 refine ewl_run rfl (rn_load rfl ti3 hb3 rfl) ?_
 refine ewl_grd rfl rfl (by simp) ?_
 refine ewl_run rfl (rn_fa rfl fl51_3) ?_
 refine ewl_grd rfl rfl (by simp) ?_
 refine ewl_run rfl (rn_load rfl ti3 hb4 rfl) ?_
 refine ewl_grd rfl rfl (by simp) ?_
 refine ewl_run rfl (rn_neI rfl rfl) ?_
 refine ewl_run rfl (rn_pickf rfl (by simp) rfl) ?_
 refine ewl_run rfl (rn_move rfl) ?_
 refine ewl_grd rfl rfl (by simp) ?_
 refine ewl_run rfl (rn_move rfl) ?_
 refine ewl_grd rfl rfl (by simp) ?_
 refine ewl_run rfl (rn_move rfl) ?_
 refine ewl_off rfl rfl rfl rfl ?_
 refine ewl_off rfl rfl rfl rfl ?_
 refine ewl_off rfl rfl rfl rfl ?_
 refine ewl_off rfl rfl rfl rfl ?_
 refine ewl_off rfl rfl rfl rfl ?_
 refine ewl_grd rfl rfl (by simp) ?_
 refine ewl_run rfl (rn_pickf rfl rfl rfl) ?_
 refine ewl_run rfl (rn_pickf rfl (by simp) rfl) ?_
 refine ewl_run rfl (rn_move rfl) ?_
 refine ewl_grd rfl rfl rfl ?_
 refine ewl_run rfl (rn_fa rfl fl51_4) ?_
 refine ewl_grd rfl rfl rfl ?_
 refine ewl_run rfl (rn_load rfl ti30 hb3 rfl) ?_
 refine ewl_grd rfl rfl rfl ?_
 refine ewl_run rfl (rn_fa rfl fl51_4) ?_
 refine ewl_grd rfl rfl rfl ?_
 refine ewl_run rfl (rn_load rfl ti30 hb4 rfl) ?_
 refine ewl_grd rfl rfl rfl ?_
 refine ewl_run rfl (rn_move rfl) ?_
 refine ewl_grd rfl rfl rfl ?_
 refine ewl_ret rfl (en_call ent10 rfl rfl) (ih _ U V kids kids2 ka1 kn1 kc1 ka2 kn2 kc2 (by omega) (by have := hbr.1; omega) hbr.2.1 hek (hk1.ext hX) (hk2.ext hX)) ?_
 rintro _ w6 ⟨rfl, hE4⟩
 replace hb3 := hb3.ext hE4
 replace hb4 := hb4.ext hE4
 replace hX := hX.trans hE4
 have sz3 := hE4.size
 refine ewl_grd rfl rfl rfl ?_
 refine ewl_run rfl (rn_nott rfl rfl) ?_
 refine ewl_run rfl (rn_pickf rfl rfl rfl) ?_
 refine ewl_nil ?_
 refine thn_n ?_
 refine ewp_iff rfl rfl ?_
 refine ewp_skip ?_
 refine blk_n ?_
 refine thn_n ?_
 refine ewp_reg ?_
 refine ewl_run rfl (rn_move rfl) ?_
 refine ewl_run rfl (rn_add rfl rfl ⟨by omega, by omega⟩) ?_
 refine ewl_run rfl (rn_assign rfl) ?_
 refine ewl_nil ?_
 refine lp_n r.len (upd (upd (upd (upd SW.e0 0 (.slice (some ⟨b, off, none⟩) n c)) 1 (.slice (some ⟨c3, off2, none⟩) n2 c2)) 2 (.bool false)) 7 (.int .i64 ((i + 1 : Nat) : Int))) (by simp [Nd.len]) (le_upd (le_upd (le_upd (le_upd (le_e0 _) rfl) rfl) rfl) rfl) ⟨i + 1, r, q, rfl, rfl, rfl, by omega, her, hbr.2.2, by omega, hat.next, hat2.next, hX⟩
 refine ewt_br rfl ?_ ?_
 refine ewl_alloc rfl zr51 fun b3 w7 hb5 hE5 hs3 hz4 => ?_
 replace hX := hX.trans hE5
 replace hKp := hKp.ext hE5
 refine ewl_nil (onwt_n hKp ?_)
 refine ewt_br rfl ?_ ewt_none
 refine ewl_alloc rfl zr51 fun b4 w8 hb6 hE6 hs4 hz5 => ?_
 replace hb5 := hb5.ext hE6
 replace hX := hX.trans hE6
 replace hKp := hKp.ext hE6
 refine ewl_nil (onwt_n hKp ?_)
 refine ewt_br rfl ?_ ewt_none
 refine ewl_store rfl rfl rfl ti51 rfl hb6 rfl rfl fun w9 hb7 hC3 => ?_
 replace hb5 := hb5.chg hC3 (by omega)
 replace hX := hX.chg hC3 (by omega)
 replace hKp := hKp.chg hC3 (by simp only [List.mem_cons, List.not_mem_nil, or_false]; omega)
 have sz4 := hC3.size
 refine ewl_nil (onwt_n hKp ?_)
 refine ewt_br rfl ?_ ewt_none
 refine ewl_store rfl rfl rfl ti51 rfl hb5 rfl rfl fun w10 hb8 hC4 => ?_
 replace hb7 := hb7.chg hC4 (by omega)
 replace hX := hX.chg hC4 (by omega)
 replace hKp := hKp.chg hC4 (by simp only [List.mem_cons, List.not_mem_nil, or_false]; omega)
 have sz5 := hC4.size
 refine ewl_nil (onwt_n hKp ?_)
 refine ewt_fin ?_
 refine thn_n ?_
 refine ewp_seq ?_
 refine ewp_reg ?_
 refine ewl_run rfl (rn_fa rfl fl51_0) ?_
 refine ewl_run rfl (rn_load rfl ti3 hb7 rfl) ?_
 refine ewl_run rfl (rn_fa rfl fl51_0) ?_
 refine ewl_run rfl (rn_load rfl ti3 hb8 rfl) ?_
 refine ewl_run rfl (rn_neI rfl rfl) ?_
 refine ewl_run rfl (rn_move rfl) ?_
 refine ewl_grd rfl rfl (by simp) ?_
 refine ewl_run rfl (rn_fa rfl fl51_2) ?_
 refine ewl_grd rfl rfl (by simp) ?_
 refine ewl_run rfl (rn_load rfl ti9 hb7 rfl) ?_
 refine ewl_grd rfl rfl (by simp) ?_
 refine ewl_run rfl (rn_fa rfl fl51_2) ?_
 refine ewl_grd rfl rfl (by simp) ?_
 refine ewl_run rfl (rn_load rfl ti9 hb8 rfl) ?_
 refine ewl_grd rfl rfl (by simp) ?_
 refine ewl_run rfl (rn_neS rfl rfl) ?_
 refine ewl_run rfl (rn_pickf rfl (by simp) rfl) ?_
 refine ewl_run rfl (rn_move rfl) ?_
 refine ewl_grd rfl rfl (by simp) ?_
 refine ewl_run rfl (rn_fa rfl fl51_3) ?_
 refine ewl_grd rfl rfl (by simp) ?_
 refine ewl_run rfl (rn_load rfl ti3 hb7 rfl) ?_
 refine ewl_grd rfl rfl (by simp) ?_
 refine ewl_run rfl (rn_fa rfl fl51_3) ?_
 refine ewl_grd rfl rfl (by simp) ?_
 refine ewl_run rfl (rn_load rfl ti3 hb8 rfl) ?_
 refine ewl_grd rfl rfl (by simp) ?_
 refine ewl_run rfl (rn_neI rfl rfl) ?_
 refine ewl_run rfl (rn_pickf rfl (by simp) rfl) ?_
 refine ewl_run rfl (rn_move rfl) ?_
 refine ewl_grd rfl rfl (by simp) ?_
 refine ewl_run rfl (rn_move rfl) ?_
 refine ewl_grd rfl rfl (by simp) ?_
 refine ewl_run rfl (rn_move rfl) ?_
 refine ewl_off rfl rfl rfl rfl ?_
 refine ewl_off rfl rfl rfl rfl ?_
 refine ewl_off rfl rfl rfl rfl ?_
 refine ewl_off rfl rfl rfl rfl ?_
 refine ewl_off rfl rfl rfl rfl ?_
 refine ewl_grd rfl rfl (by simp) ?_
 refine ewl_run rfl (rn_pickf rfl rfl rfl) ?_
 refine ewl_run rfl (rn_pickf rfl (by simp) rfl) ?_
 refine ewl_run rfl (rn_move rfl) ?_
 refine ewl_grd rfl rfl rfl ?_
 refine ewl_run rfl (rn_fa rfl fl51_4) ?_
 refine ewl_grd rfl rfl rfl ?_
 refine ewl_run rfl (rn_load rfl ti30 hb7 rfl) ?_
 refine ewl_grd rfl rfl rfl ?_
 refine ewl_run rfl (rn_fa rfl fl51_4) ?_
 refine ewl_grd rfl rfl rfl ?_
 refine ewl_run rfl (rn_load rfl ti30 hb8 rfl) ?_
 refine ewl_grd rfl rfl rfl ?_
 refine ewl_run rfl (rn_move rfl) ?_
 refine ewl_grd rfl rfl rfl ?_
 refine ewl_ret rfl (en_call ent10 rfl rfl) (ih _ U V kids kids2 ka1 kn1 kc1 ka2 kn2 kc2 (by omega) (by have := hbr.1; omega) hbr.2.1 hek (hk1.ext hX) (hk2.ext hX)) ?_
 rintro _ w11 ⟨rfl, hE7⟩
 replace hb8 := hb8.ext hE7
 replace hb7 := hb7.ext hE7
 replace hX := hX.trans hE7
 have sz6 := hE7.size
 refine ewl_grd rfl rfl rfl ?_
 refine ewl_run rfl (rn_nott rfl rfl) ?_
 refine ewl_run rfl (rn_pickf rfl rfl rfl) ?_
 refine ewl_nil ?_
 refine thn_n ?_
 refine ewp_iff rfl rfl ?_
 refine ewp_skip ?_
 refine blk_n ?_
 refine thn_n ?_
 refine ewp_reg ?_
 refine ewl_run rfl (rn_move rfl) ?_
 refine ewl_run rfl (rn_add rfl rfl ⟨by omega, by omega⟩) ?_
 refine ewl_run rfl (rn_assign rfl) ?_
 refine ewl_nil ?_
 refine lp_n r.len (upd (upd (upd (upd SW.e0 0 (.slice (some ⟨b, off, none⟩) n c)) 1 (.slice (some ⟨c3, off2, none⟩) n2 c2)) 2 (.bool false)) 7 (.int .i64 ((i + 1 : Nat) : Int))) (by simp [Nd.len]) (le_upd (le_upd (le_upd (le_upd (le_e0 _) rfl) rfl) rfl) rfl) ⟨i + 1, r, q, rfl, rfl, rfl, by omega, her, hbr.2.2, by omega, hat.next, hat2.next, hX⟩
 exact ewt_none
 refine ewp_exit ?_
 refine thn_e ?_
 refine lp_e ?_
 refine blk_e ?_
 refine thn_n ?_
 refine ewp_seq ?_
 refine ewp_reg ?_
 refine ewl_run rfl (rn_assign rfl) ?_
 refine ewl_nil ?_
 refine thn_n ?_
 refine ewp_ret ?_
 refine fn_r (resv rfl (rv_tmp rfl)) ?_
 exact ⟨rfl, hX⟩
theorem same_spec (w : World) (U V : Nat → Prop) (x y : Nd) (a : Option Addr) (n c : Nat) (a2 : Option Addr) (n2 c2 : Nat) (hlen : x.len ≤ 1000000) (hbn : x.bnd) (her : x.er = y.er) (hK : NdS U w a n c x) (hK2 : NdS V w a2 n2 c2 y) :
   Ret Tryz.prog 10 #[.slice a n c, .slice a2 n2 c2, .bool false] w fun v w' => v = .bool true ∧ Ext w w' :=
 by_size (p := SameF Tryz.prog 10) (fun w U V x y a n c a2 n2 c2 h => by omega) (fun m ih w U V x y a n c a2 n2 c2 h1 h2 h3 h4 h5 h6 => same_step m ih w U V x y a n c a2 n2 c2 h1 h2 h3 h4 h5 h6) (x.size + 1) w U V x y a n c a2 n2 c2 (Nat.lt_succ_self _) hlen hbn her hK hK2
end Go.Proofs.YthjdnhnbgjgbkaaGreatDoor
namespace Go.Proofs.YthjdnhnbgjgbkaaGreatDoor
open Go.SW Go.SP Go.RowKit
theorem ent8 : Ent Tryz.prog 8 := ent_of Tryz.func8 (by kernel_rfl) (by kernel_rfl)
theorem bi {a b : Int} (h : a = b) : some (Value.int .i64 a) = some (Value.int .i64 b) := by rw [h]
theorem pieces_spec (w : World) (hG : Gl w) (x y : List UInt8) :
   Ret Tryz.prog 3 #[S x, S y] w fun v w' => v = .bool true ∧ Ext w w' := by
 have hX := Ext.refl w
 refine enter Tryz.func3 rfl rfl rfl ?_
 refine ewp_seq ?_
 refine ewp_reg ?_
 refine ewl_run rfl (rn_assign rfl) ?_
 refine ewl_nil ?_
 refine thn_n ?_
 refine ewp_seq ?_
 refine ewp_seq ?_
 refine ewp_reg ?_
 refine ewl_run rfl (rn_move rfl) ?_
 refine ewl_run rfl (rn_lenS rfl un9) ?_
 refine ewl_run rfl (rn_gtI rfl rfl) ?_
 refine ewl_run rfl (rn_move rfl) ?_
 refine ewl_split 20 rfl (fun h1 => ?_) (fun h1 => ?_)
 refine ewl_off rfl rfl rfl h1 ?_
 refine ewl_off rfl rfl rfl h1 ?_
 refine ewl_off rfl rfl rfl h1 ?_
 refine ewl_run rfl (rn_pickt rfl h1 rfl) ?_
 refine ewl_nil ?_
 refine thn_n ?_
 refine ewp_ift rfl rfl ?_
 refine ewp_seq ?_
 refine ewp_reg ?_
 refine ewl_ret rfl (en_call ent8 rfl rfl) (parses_spec _ (hG.ext hX)) ?_
 rintro _ w1 ⟨rfl, hE1⟩
 replace hX := hX.trans hE1
 have sz1 := hE1.size
 refine ewl_run rfl (rn_assign rfl) ?_
 refine ewl_nil ?_
 refine thn_n ?_
 refine ewp_ret ?_
 refine thn_r ?_
 refine fn_r (resv rfl (rv_tmp rfl)) ?_
 exact ⟨rfl, hX⟩
 refine ewl_grd rfl rfl h1 ?_
 refine ewl_run rfl (rn_move rfl) ?_
 refine ewl_grd rfl rfl h1 ?_
 refine ewl_run rfl (rn_lenS rfl un9) ?_
 refine ewl_grd rfl rfl h1 ?_
 refine ewl_run rfl (rn_gtI rfl rfl) ?_
 refine ewl_run rfl (rn_pickf rfl h1 rfl) ?_
 refine ewl_nil ?_
 refine thn_n ?_
 refine ewp_if rfl (fun h2 => ?_) (fun h2 => ?_)
 refine ewp_seq ?_
 refine ewp_reg ?_
 refine ewl_ret rfl (en_call ent8 rfl rfl) (parses_spec _ (hG.ext hX)) ?_
 rintro _ w2 ⟨rfl, hE2⟩
 replace hX := hX.trans hE2
 have sz2 := hE2.size
 refine ewl_run rfl (rn_assign rfl) ?_
 refine ewl_nil ?_
 refine thn_n ?_
 refine ewp_ret ?_
 refine thn_r ?_
 refine fn_r (resv rfl (rv_tmp rfl)) ?_
 exact ⟨rfl, hX⟩
 refine ewp_skip ?_
 refine thn_n ?_
 refine ewp_seq ?_
 refine ewp_reg ?_
 refine ewl_run rfl (rn_move rfl) ?_
 refine ewl_ret rfl (en_call ent9 rfl rfl) (program _ (hG.ext hX) x) ?_
 rintro _ w3 ⟨ral, rcl, rfl, hNl, hE3⟩
 replace hX := hX.trans hE3
 have sz3 := hE3.size
 have hA1 := Ext.refl w3
 refine ewl_run rfl (rn_move rfl) ?_
 refine ewl_run rfl (rn_exs rfl rfl) ?_
 refine ewl_run rfl (rn_exs rfl rfl) ?_
 refine ewl_run rfl (rn_exs rfl rfl) ?_
 refine ewl_alloc rfl zr25 fun b1 w4 hb1 hE4 hs1 hz1 => ?_
 replace hX := hX.trans hE4
 replace hA1 := hA1.trans hE4
 refine ewl_run rfl (rn_assign rfl) ?_
 refine ewl_store rfl rfl rfl ti25 rfl hb1 rfl rfl fun w5 hb2 hC1 => ?_
 replace hX := hX.chg hC1 (by omega)
 replace hA1 := hA1.chg hC1 (by omega)
 have sz4 := hC1.size
 refine ewl_run rfl (rn_assign rfl) ?_
 refine ewl_nil ?_
 refine thn_n ?_
 refine ewp_seq ?_
 refine ewp_reg ?_
 refine ewl_run rfl (rn_move rfl) ?_
 refine ewl_ret rfl (en_call ent9 rfl rfl) (program _ (hG.ext hX) y) ?_
 rintro _ w6 ⟨ram, rcm, rfl, hNm, hE5⟩
 replace hb2 := hb2.ext hE5
 replace hX := hX.trans hE5
 replace hA1 := hA1.trans hE5
 have sz5 := hE5.size
 have hA2 := Ext.refl w6
 refine ewl_run rfl (rn_move rfl) ?_
 refine ewl_run rfl (rn_exs rfl rfl) ?_
 refine ewl_run rfl (rn_exs rfl rfl) ?_
 refine ewl_run rfl (rn_exs rfl rfl) ?_
 refine ewl_alloc rfl zr25 fun b2 w7 hb3 hE6 hs2 hz2 => ?_
 replace hb2 := hb2.ext hE6
 replace hX := hX.trans hE6
 replace hA1 := hA1.trans hE6
 replace hA2 := hA2.trans hE6
 refine ewl_run rfl (rn_assign rfl) ?_
 refine ewl_store rfl rfl rfl ti25 rfl hb3 rfl rfl fun w8 hb4 hC2 => ?_
 replace hb2 := hb2.chg hC2 (by omega)
 replace hX := hX.chg hC2 (by omega)
 replace hA1 := hA1.chg hC2 (by omega)
 replace hA2 := hA2.chg hC2 (by omega)
 have sz6 := hC2.size
 refine ewl_run rfl (rn_assign rfl) ?_
 refine ewl_nil ?_
 refine thn_n ?_
 refine ewp_seq ?_
 refine ewp_reg ?_
 refine ewl_run rfl (rn_move rfl) ?_
 refine ewl_run rfl (rn_addS rfl rfl (by have := of_decide_eq_false h1; have := of_decide_eq_false h2; simp only [List.length_cons, List.length_nil, List.length_append]; omega)) ?_
 refine ewl_run rfl (rn_move rfl) ?_
 refine ewl_run rfl (rn_addS rfl rfl (by have := of_decide_eq_false h1; have := of_decide_eq_false h2; simp only [List.length_cons, List.length_nil, List.length_append]; omega)) ?_
 refine ewl_ret rfl (en_call ent9 rfl rfl) (program _ (hG.ext hX) (x ++ [10] ++ y)) ?_
 rintro _ w9 ⟨ran, rcn, rfl, hNn, hE7⟩
 replace hb2 := hb2.ext hE7
 replace hb4 := hb4.ext hE7
 replace hX := hX.trans hE7
 replace hA1 := hA1.trans hE7
 replace hA2 := hA2.trans hE7
 have sz7 := hE7.size
 have hA3 := Ext.refl w9
 refine ewl_run rfl (rn_move rfl) ?_
 refine ewl_run rfl (rn_exs rfl rfl) ?_
 refine ewl_run rfl (rn_exs rfl rfl) ?_
 refine ewl_run rfl (rn_exs rfl rfl) ?_
 refine ewl_alloc rfl zr25 fun b3 w10 hb5 hE8 hs3 hz3 => ?_
 replace hb2 := hb2.ext hE8
 replace hb4 := hb4.ext hE8
 replace hX := hX.trans hE8
 replace hA1 := hA1.trans hE8
 replace hA2 := hA2.trans hE8
 replace hA3 := hA3.trans hE8
 refine ewl_run rfl (rn_assign rfl) ?_
 refine ewl_store rfl rfl rfl ti25 rfl hb5 rfl rfl fun w11 hb6 hC3 => ?_
 replace hb2 := hb2.chg hC3 (by omega)
 replace hb4 := hb4.chg hC3 (by omega)
 replace hX := hX.chg hC3 (by omega)
 replace hA1 := hA1.chg hC3 (by omega)
 replace hA2 := hA2.chg hC3 (by omega)
 replace hA3 := hA3.chg hC3 (by omega)
 have sz8 := hC3.size
 refine ewl_run rfl (rn_assign rfl) ?_
 refine ewl_nil ?_
 refine thn_n ?_
 refine ewp_seq ?_
 refine ewp_seq ?_
 refine ewp_reg ?_
 refine ewl_ret rfl (en_call ent8 rfl rfl) (parses_spec _ (hG.ext hX)) ?_
 rintro _ w12 ⟨rfl, hE9⟩
 replace hb2 := hb2.ext hE9
 replace hb4 := hb4.ext hE9
 replace hb6 := hb6.ext hE9
 replace hX := hX.trans hE9
 replace hA1 := hA1.trans hE9
 replace hA2 := hA2.trans hE9
 replace hA3 := hA3.trans hE9
 have sz9 := hE9.size
 refine ewl_run rfl (rn_nott rfl rfl) ?_
 refine ewl_run rfl (rn_move rfl) ?_
 refine ewl_grd rfl rfl rfl ?_
 refine ewl_run rfl (rn_move rfl) ?_
 refine ewl_grd rfl rfl rfl ?_
 refine ewl_run rfl (rn_eqI rfl rfl) ?_
 refine ewl_grd rfl rfl rfl ?_
 refine ewl_run rfl (rn_move rfl) ?_
 refine ewl_split 52 rfl (fun h3 => ?_) (fun h3 => ?_)
 refine ewl_grd rfl rfl h3 ?_
 refine ewl_run rfl (rn_move rfl) ?_
 refine ewl_grd rfl rfl h3 ?_
 refine ewl_run rfl (rn_eqI rfl rfl) ?_
 refine ewl_grd rfl rfl rfl ?_
 refine ewl_run rfl (rn_pickt rfl h3 rfl) ?_
 refine ewl_grd rfl rfl rfl ?_
 refine ewl_run rfl (rn_move rfl) ?_
 refine ewl_split 56 rfl (fun h4 => ?_) (fun h4 => ?_)
 refine ewl_grd rfl rfl h4 ?_
 refine ewl_run rfl (rn_move rfl) ?_
 refine ewl_grd rfl rfl h4 ?_
 have hpk := pieces_ok (a := x) (b := y) (by have := of_decide_eq_false h1; omega) (by have := of_decide_eq_false h2; omega) h3 h4
 refine ewl_run rfl (rn_neI rfl rfl) ?_
 refine ewl_grd rfl rfl h4 ?_
 refine ewl_run rfl (rn_move rfl) ?_
 refine ewl_grd rfl rfl (by rw [show (progS (x ++ [10] ++ y)).2.2.2 = 0 from hpk.1]; rfl) ?_
 refine ewl_run rfl (rn_move rfl) ?_
 refine ewl_grd rfl rfl (by rw [show (progS (x ++ [10] ++ y)).2.2.2 = 0 from hpk.1]; rfl) ?_
 refine ewl_ret rfl (en_call ent11 rfl rfl) (from_spec _ _ (progS (x ++ [10] ++ y)).1 _ _ _ (progM_bnd 200 _).1 (by have := (progM_bnd 200 (x ++ [10] ++ y)).2; exact Nat.le_trans this (by decide)) (hNn.ext hA3)) ?_
 rintro _ w13 ⟨fan, fcn, rfl, hFn, hE10⟩
 replace hb2 := hb2.ext hE10
 replace hb4 := hb4.ext hE10
 replace hb6 := hb6.ext hE10
 replace hX := hX.trans hE10
 replace hA1 := hA1.trans hE10
 replace hA2 := hA2.trans hE10
 replace hA3 := hA3.trans hE10
 have sz10 := hE10.size
 have hFS := hFn.nds.lt
 have hA4 := Ext.refl w13
 refine ewl_grd rfl rfl (by rw [show (progS (x ++ [10] ++ y)).2.2.2 = 0 from hpk.1]; rfl) ?_
 refine ewl_run rfl (rn_move rfl) ?_
 refine ewl_grd rfl rfl (by rw [show (progS (x ++ [10] ++ y)).2.2.2 = 0 from hpk.1]; rfl) ?_
 refine ewl_ret rfl (en_call ent11 rfl rfl) (from_spec _ _ (progS x).1 _ _ _ (progM_bnd 200 _).1 (by have := (progM_bnd 200 x).2; exact Nat.le_trans this (by decide)) (hNl.ext hA1)) ?_
 rintro _ w14 ⟨fal, fcl, rfl, hFl, hE11⟩
 replace hb2 := hb2.ext hE11
 replace hb4 := hb4.ext hE11
 replace hb6 := hb6.ext hE11
 replace hX := hX.trans hE11
 replace hA1 := hA1.trans hE11
 replace hA2 := hA2.trans hE11
 replace hA3 := hA3.trans hE11
 replace hA4 := hA4.trans hE11
 have sz11 := hE11.size
 have hA5 := Ext.refl w14
 have hltl : ∀ q, rb fal = some q → q < w14.heap.size := fun q hq => (hFl.ex.choose_spec.1).lt hq
 refine ewl_grd rfl rfl (by rw [show (progS (x ++ [10] ++ y)).2.2.2 = 0 from hpk.1]; rfl) ?_
 refine ewl_run rfl (rn_move rfl) ?_
 refine ewl_grd rfl rfl (by rw [show (progS (x ++ [10] ++ y)).2.2.2 = 0 from hpk.1]; rfl) ?_
 refine ewl_ret rfl (en_call ent11 rfl rfl) (from_spec _ _ (progS y).1 _ _ _ (progM_bnd 200 _).1 (by have := (progM_bnd 200 y).2; exact Nat.le_trans this (by decide)) (hNm.ext hA2)) ?_
 rintro _ w15 ⟨fam, fcm, rfl, hFm, hE12⟩
 replace hb2 := hb2.ext hE12
 replace hb4 := hb4.ext hE12
 replace hb6 := hb6.ext hE12
 replace hX := hX.trans hE12
 replace hA1 := hA1.trans hE12
 replace hA2 := hA2.trans hE12
 replace hA3 := hA3.trans hE12
 replace hA4 := hA4.trans hE12
 replace hA5 := hA5.trans hE12
 have sz12 := hE12.size
 have hA6 := Ext.refl w15
 refine ewl_grd rfl rfl (by rw [show (progS (x ++ [10] ++ y)).2.2.2 = 0 from hpk.1]; rfl) ?_
 have hbl : (progS x).1.len ≤ 100000 := (progM_bnd 200 x).2
 have hbm : (progS y).1.len ≤ 100000 := (progM_bnd 200 y).2
 refine ewl_appN rfl ap30 rfl rfl rfl (hFl.ext hA5) (hFm.ext hA6) (by omega) (fun q hq => hltl q hq) (by omega) (by omega) (by omega) fun fa fc w16 hA hG1 => ?_
 have hS1 := ((hFS.ext hA4)).grow hG1 (fun b hb e => by have h1 := hFl.new b e.symm; have h2 := hb.2; omega)
 replace hX := hX.grow hG1 (fun b hb => by have := hFl.new b hb; omega)
 refine ewl_grd rfl rfl (by rw [show (progS (x ++ [10] ++ y)).2.2.2 = 0 from hpk.1]; rfl) ?_
 have hle : (progS x).1.len + (progS y).1.len = ((progS x).1.app (progS y).1).len := (Nd.len_app _ _).symm
 refine ewl_ret rfl (en_call ent10 rfl rfl) (same_spec _ _ _ (progS (x ++ [10] ++ y)).1 ((progS x).1.app (progS y).1) _ _ _ _ _ _ (by have := (progM_bnd 200 (x ++ [10] ++ y)).2; exact Nat.le_trans this (by decide)) (progM_bnd 200 _).1 hpk.2 hS1 hA.nds) ?_
 rintro _ w17 ⟨rfl, hE13⟩
 replace hX := hX.trans hE13
 have sz13 := hE13.size
 refine ewl_grd rfl rfl (by rw [show (progS (x ++ [10] ++ y)).2.2.2 = 0 from hpk.1]; rfl) ?_
 refine ewl_run rfl (rn_nott rfl rfl) ?_
 refine ewl_grd rfl rfl h4 ?_
 refine ewl_run rfl (rn_pickf rfl (by rw [show (progS (x ++ [10] ++ y)).2.2.2 = 0 from hpk.1]; rfl) rfl) ?_
 refine ewl_grd rfl rfl rfl ?_
 refine ewl_run rfl (rn_pickt rfl h4 rfl) ?_
 refine ewl_run rfl (rn_pickf rfl rfl rfl) ?_
 refine ewl_nil ?_
 refine thn_n ?_
 refine ewp_iff rfl rfl ?_
 refine ewp_skip ?_
 refine thn_n ?_
 refine ewp_seq ?_
 refine ewp_seq ?_
 refine ewp_reg ?_
 refine ewl_run rfl (rn_assign rfl) ?_
 refine ewl_nil ?_
 refine thn_n ?_
 refine ewp_block ?_
 have hlx : x.length ≤ 2000 := by have := of_decide_eq_false h1; omega
 have hly : y.length ≤ 2000 := by have := of_decide_eq_false h2; omega
 refine ewp_loop (fun kk σ ds w' => ∃ i : Nat, kk = x.length - i ∧ ds = [] ∧ σ = (upd (upd (upd (upd (upd SW.e0 0 (S x)) 7 (.int .i64 (progS x).2.2.2)) 10 (.int .i64 (progS y).2.2.2)) 13 (.int .i64 (progS (x ++ [10] ++ y)).2.2.2)) 14 (.int .i64 (i : Int))) ∧ i ≤ x.length ∧ noQ (x.take i) ∧ Ext w w') x.length (upd (upd (upd (upd (upd SW.e0 0 (S x)) 7 (.int .i64 (progS x).2.2.2)) 10 (.int .i64 (progS y).2.2.2)) 13 (.int .i64 (progS (x ++ [10] ++ y)).2.2.2)) 14 (.int .i64 ((0 : Nat) : Int))) (le_upd (le_upd (le_upd (le_upd (le_upd (le_e0 _) rfl) rfl) rfl) rfl) rfl) ⟨0, rfl, rfl, rfl, by omega, (fun c hc => by simp at hc), hX⟩ ?_
 rintro _ _ _ wl ⟨i, rfl, rfl, rfl, hi, hq, hX⟩
 refine ewp_seq ?_
 refine ewp_seq ?_
 refine ewp_reg ?_
 refine ewl_run rfl (rn_move rfl) ?_
 refine ewl_run rfl (rn_move rfl) ?_
 refine ewl_run rfl (rn_lenS rfl un9) ?_
 refine ewl_run rfl (rn_ltI rfl rfl) ?_
 refine ewl_nil ?_
 refine thn_n ?_
 refine ewp_if rfl (fun h5 => ?_) (fun h5 => ?_)
 refine ewp_skip ?_
 refine thn_n ?_
 refine ewp_seq ?_
 refine ewp_block ?_
 refine ewp_seq ?_
 have hil : i < x.length := by have := of_decide_eq_true h5; omega
 obtain ⟨c, hc⟩ := at_lt hil
 refine ewp_reg ?_
 refine ewl_run rfl (rn_move rfl) ?_
 refine ewl_run rfl (rn_move rfl) ?_
 refine ewl_run rfl (rn_ixS rfl rfl un9 (by omega) (by simpa using hc)) ?_
 refine ewl_run rfl (rn_eqI rfl rfl) ?_
 refine ewl_run rfl (rn_move rfl) ?_
 refine ewl_split 82 rfl (fun h6 => ?_) (fun h6 => ?_)
 refine ewl_off rfl rfl rfl h6 ?_
 refine ewl_off rfl rfl rfl h6 ?_
 refine ewl_off rfl rfl rfl h6 ?_
 refine ewl_off rfl rfl rfl h6 ?_
 refine ewl_run rfl (rn_pickt rfl h6 rfl) ?_
 refine ewl_nil ?_
 refine thn_n ?_
 refine ewp_ift rfl rfl ?_
 refine ewp_seq ?_
 refine ewp_reg ?_
 refine ewl_run rfl (rn_assign rfl) ?_
 refine ewl_nil ?_
 refine thn_n ?_
 refine ewp_ret ?_
 refine blk_r ?_
 refine thn_r ?_
 refine lp_r ?_
 refine blk_r ?_
 refine thn_r ?_
 refine fn_r (resv rfl (rv_tmp rfl)) ?_
 exact ⟨rfl, hX⟩
 refine ewl_grd rfl rfl h6 ?_
 refine ewl_run rfl (rn_move rfl) ?_
 refine ewl_grd rfl rfl h6 ?_
 refine ewl_run rfl (rn_move rfl) ?_
 refine ewl_grd rfl rfl h6 ?_
 refine ewl_run rfl (rn_ixS rfl rfl un9 (by omega) (by simpa using hc)) ?_
 refine ewl_grd rfl rfl h6 ?_
 refine ewl_run rfl (rn_eqI rfl rfl) ?_
 refine ewl_run rfl (rn_pickf rfl h6 rfl) ?_
 refine ewl_nil ?_
 refine thn_n ?_
 refine ewp_if rfl (fun h7 => ?_) (fun h7 => ?_)
 refine ewp_seq ?_
 refine ewp_reg ?_
 refine ewl_run rfl (rn_assign rfl) ?_
 refine ewl_nil ?_
 refine thn_n ?_
 refine ewp_ret ?_
 refine blk_r ?_
 refine thn_r ?_
 refine lp_r ?_
 refine blk_r ?_
 refine thn_r ?_
 refine fn_r (resv rfl (rv_tmp rfl)) ?_
 exact ⟨rfl, hX⟩
 refine ewp_skip ?_
 refine blk_n ?_
 refine thn_n ?_
 refine ewp_reg ?_
 refine ewl_run rfl (rn_move rfl) ?_
 refine ewl_run rfl (rn_add rfl rfl ⟨by omega, by omega⟩) ?_
 refine ewl_run rfl (rn_assign rfl) ?_
 refine ewl_nil ?_
 refine lp_n (x.length - (i + 1)) (upd (upd (upd (upd (upd SW.e0 0 (S x)) 7 (.int .i64 (progS x).2.2.2)) 10 (.int .i64 (progS y).2.2.2)) 13 (.int .i64 (progS (x ++ [10] ++ y)).2.2.2)) 14 (.int .i64 ((i + 1 : Nat) : Int))) (by omega) (le_upd (le_upd (le_upd (le_upd (le_upd (le_e0 _) rfl) rfl) rfl) rfl) rfl) ⟨i + 1, rfl, rfl, rfl, by omega, (by rw [take_snoc hc]; exact noQ_snoc hq h6 h7), hX⟩
 refine ewp_exit ?_
 refine thn_e ?_
 refine lp_e ?_
 refine blk_e ?_
 refine thn_n ?_
 refine ewp_seq ?_
 refine ewp_reg ?_
 refine ewl_run rfl (rn_assign rfl) ?_
 refine ewl_nil ?_
 refine thn_n ?_
 refine ewp_seq ?_
 refine ewp_seq ?_
 refine ewp_reg ?_
 refine ewl_run rfl (rn_assign rfl) ?_
 refine ewl_nil ?_
 refine thn_n ?_
 refine ewp_block ?_
 have hqx : noQ x := by have hh : ¬ (i : Int) < (x.length : Int) := of_decide_eq_false h5; rwa [List.take_of_length_le (by omega)] at hq
 refine ewp_loop (fun kk σ ds w' => ∃ i : Nat, kk = x.length - i ∧ ds = [] ∧ σ = (upd (upd (upd (upd (upd (upd SW.e0 0 (S x)) 7 (.int .i64 (progS x).2.2.2)) 10 (.int .i64 (progS y).2.2.2)) 13 (.int .i64 (progS (x ++ [10] ++ y)).2.2.2)) 15 (.int .i64 (cntB (x.take i)))) 16 (.int .i64 (i : Int))) ∧ i ≤ x.length ∧ Ext w w') x.length (upd (upd (upd (upd (upd (upd SW.e0 0 (S x)) 7 (.int .i64 (progS x).2.2.2)) 10 (.int .i64 (progS y).2.2.2)) 13 (.int .i64 (progS (x ++ [10] ++ y)).2.2.2)) 15 (.int .i64 (cntB (x.take 0)))) 16 (.int .i64 ((0 : Nat) : Int))) (le_upd (le_upd (le_upd (le_upd (le_upd (le_upd (le_e0 _) rfl) rfl) rfl) rfl) (bi (by simp [cntB]))) rfl) ⟨0, rfl, rfl, rfl, by omega, hX⟩ ?_
 clear hi hq
 rintro _ _ _ wl ⟨i, rfl, rfl, rfl, hi, hX⟩
 have hcb := cntB_le (x.take i)
 rw [List.length_take, Nat.min_eq_left hi] at hcb
 refine ewp_seq ?_
 refine ewp_seq ?_
 refine ewp_reg ?_
 refine ewl_run rfl (rn_move rfl) ?_
 refine ewl_run rfl (rn_move rfl) ?_
 refine ewl_run rfl (rn_lenS rfl un9) ?_
 refine ewl_run rfl (rn_ltI rfl rfl) ?_
 refine ewl_nil ?_
 refine thn_n ?_
 refine ewp_if rfl (fun h8 => ?_) (fun h8 => ?_)
 refine ewp_skip ?_
 refine thn_n ?_
 refine ewp_seq ?_
 refine ewp_block ?_
 refine ewp_seq ?_
 refine ewp_seq ?_
 have hil : i < x.length := by have := of_decide_eq_true h8; omega
 obtain ⟨c, hc⟩ := at_lt hil
 have hT : cntB (x.take (i + 1)) = cntB (x.take i) + brk c.toNat := by rw [take_snoc hc, cntB_app]; simp [cntB]
 refine ewp_reg ?_
 refine ewl_run rfl (rn_move rfl) ?_
 refine ewl_run rfl (rn_move rfl) ?_
 refine ewl_run rfl (rn_ixS rfl rfl un9 (by omega) (by simpa using hc)) ?_
 refine ewl_run rfl (rn_eqI rfl rfl) ?_
 refine ewl_nil ?_
 refine thn_n ?_
 refine ewp_if rfl (fun h9 => ?_) (fun h9 => ?_)
 refine ewp_reg ?_
 refine ewl_run rfl (rn_move rfl) ?_
 refine ewl_run rfl (rn_add rfl rfl ⟨by omega, by omega⟩) ?_
 refine ewl_run rfl (rn_assign rfl) ?_
 refine ewl_nil ?_
 refine thn_n ?_
 refine ewp_seq ?_
 refine ewp_reg ?_
 refine ewl_run rfl (rn_move rfl) ?_
 refine ewl_run rfl (rn_move rfl) ?_
 refine ewl_run rfl (rn_ixS rfl rfl un9 (by omega) (by simpa using hc)) ?_
 refine ewl_run rfl (rn_eqI rfl rfl) ?_
 refine ewl_nil ?_
 refine thn_n ?_
 refine ewp_if rfl (fun h10 => ?_) (fun h10 => ?_)
 · exfalso
   have e40 := beq_iff_eq.1 h9; have e41 := beq_iff_eq.1 h10; omega
 refine ewp_skip ?_
 refine blk_n ?_
 refine thn_n ?_
 refine ewp_reg ?_
 refine ewl_run rfl (rn_move rfl) ?_
 refine ewl_run rfl (rn_add rfl rfl ⟨by omega, by omega⟩) ?_
 refine ewl_run rfl (rn_assign rfl) ?_
 refine ewl_nil ?_
 refine lp_n (x.length - (i + 1)) (upd (upd (upd (upd (upd (upd SW.e0 0 (S x)) 7 (.int .i64 (progS x).2.2.2)) 10 (.int .i64 (progS y).2.2.2)) 13 (.int .i64 (progS (x ++ [10] ++ y)).2.2.2)) 15 (.int .i64 (cntB (x.take (i + 1))))) 16 (.int .i64 ((i + 1 : Nat) : Int))) (by omega) (le_upd (le_upd (le_upd (le_upd (le_upd (le_upd (le_e0 _) rfl) rfl) rfl) rfl) (bi (by rw [hT, brk]; simp only [h9, h10, if_true, Bool.false_eq_true, if_false, Int.add_zero]))) rfl) ⟨i + 1, rfl, rfl, rfl, by omega, hX⟩
 refine ewp_skip ?_
 refine thn_n ?_
 refine ewp_seq ?_
 refine ewp_reg ?_
 refine ewl_run rfl (rn_move rfl) ?_
 refine ewl_run rfl (rn_move rfl) ?_
 refine ewl_run rfl (rn_ixS rfl rfl un9 (by omega) (by simpa using hc)) ?_
 refine ewl_run rfl (rn_eqI rfl rfl) ?_
 refine ewl_nil ?_
 refine thn_n ?_
 refine ewp_if rfl (fun h11 => ?_) (fun h11 => ?_)
 refine ewp_reg ?_
 refine ewl_run rfl (rn_move rfl) ?_
 refine ewl_run rfl (rn_sub rfl rfl ⟨by omega, by omega⟩) ?_
 refine ewl_run rfl (rn_assign rfl) ?_
 refine ewl_nil ?_
 refine blk_n ?_
 refine thn_n ?_
 refine ewp_reg ?_
 refine ewl_run rfl (rn_move rfl) ?_
 refine ewl_run rfl (rn_add rfl rfl ⟨by omega, by omega⟩) ?_
 refine ewl_run rfl (rn_assign rfl) ?_
 refine ewl_nil ?_
 refine lp_n (x.length - (i + 1)) (upd (upd (upd (upd (upd (upd SW.e0 0 (S x)) 7 (.int .i64 (progS x).2.2.2)) 10 (.int .i64 (progS y).2.2.2)) 13 (.int .i64 (progS (x ++ [10] ++ y)).2.2.2)) 15 (.int .i64 (cntB (x.take (i + 1))))) 16 (.int .i64 ((i + 1 : Nat) : Int))) (by omega) (le_upd (le_upd (le_upd (le_upd (le_upd (le_upd (le_e0 _) rfl) rfl) rfl) rfl) (bi (by rw [hT, brk]; simp only [h9, h11, if_true, Bool.false_eq_true, if_false, Int.add_zero]; omega))) rfl) ⟨i + 1, rfl, rfl, rfl, by omega, hX⟩
 refine ewp_skip ?_
 refine blk_n ?_
 refine thn_n ?_
 refine ewp_reg ?_
 refine ewl_run rfl (rn_move rfl) ?_
 refine ewl_run rfl (rn_add rfl rfl ⟨by omega, by omega⟩) ?_
 refine ewl_run rfl (rn_assign rfl) ?_
 refine ewl_nil ?_
 refine lp_n (x.length - (i + 1)) (upd (upd (upd (upd (upd (upd SW.e0 0 (S x)) 7 (.int .i64 (progS x).2.2.2)) 10 (.int .i64 (progS y).2.2.2)) 13 (.int .i64 (progS (x ++ [10] ++ y)).2.2.2)) 15 (.int .i64 (cntB (x.take (i + 1))))) 16 (.int .i64 ((i + 1 : Nat) : Int))) (by omega) (le_upd (le_upd (le_upd (le_upd (le_upd (le_upd (le_e0 _) rfl) rfl) rfl) rfl) (bi (by rw [hT, brk]; simp only [h9, h11, if_true, Bool.false_eq_true, if_false, Int.add_zero]))) rfl) ⟨i + 1, rfl, rfl, rfl, by omega, hX⟩
 refine ewp_exit ?_
 refine thn_e ?_
 refine lp_e ?_
 refine blk_e ?_
 refine thn_n ?_
 refine ewp_seq ?_
 refine ewp_reg ?_
 refine ewl_run rfl (rn_move rfl) ?_
 refine ewl_run rfl (rn_eqI rfl rfl) ?_
 refine ewl_run rfl (rn_move rfl) ?_
 refine ewl_grd rfl rfl h3 ?_
 refine ewl_run rfl (rn_move rfl) ?_
 refine ewl_grd rfl rfl h3 ?_
 refine ewl_run rfl (rn_eqI rfl rfl) ?_
 refine ewl_run rfl (rn_pickt rfl h3 rfl) ?_
 refine ewl_run rfl (rn_move rfl) ?_
 refine ewl_off rfl rfl rfl h4 ?_
 refine ewl_off rfl rfl rfl h4 ?_
 refine ewl_run rfl (rn_pickt rfl h4 rfl) ?_
 refine ewl_run rfl (rn_move rfl) ?_
 refine ewl_off rfl rfl rfl rfl ?_
 refine ewl_off rfl rfl rfl rfl ?_
 refine ewl_run rfl (rn_pickt rfl rfl rfl) ?_
 refine ewl_run rfl (rn_assign rfl) ?_
 refine ewl_nil ?_
 refine thn_n ?_
 refine ewp_ret ?_
 refine fn_r (resv rfl (rv_tmp rfl)) ?_
 exact ⟨rfl, hX⟩
 refine ewl_off rfl rfl rfl h4 ?_
 refine ewl_off rfl rfl rfl h4 ?_
 refine ewl_off rfl rfl rfl h4 ?_
 refine ewl_offu rfl rfl rfl ?_
 refine ewl_offu rfl rfl rfl ?_
 refine ewl_offu rfl rfl rfl ?_
 refine ewl_offu rfl rfl rfl ?_
 refine ewl_offu rfl rfl rfl ?_
 refine ewl_offu rfl rfl rfl ?_
 refine ewl_offu rfl rfl rfl ?_
 refine ewl_offu rfl rfl rfl ?_
 refine ewl_offu rfl rfl rfl ?_
 refine ewl_off rfl rfl rfl h4 ?_
 refine ewl_grd rfl rfl rfl ?_
 refine ewl_run rfl (rn_pickf rfl h4 rfl) ?_
 refine ewl_run rfl (rn_pickf rfl rfl rfl) ?_
 refine ewl_nil ?_
 refine thn_n ?_
 refine ewp_iff rfl rfl ?_
 refine ewp_skip ?_
 refine thn_n ?_
 refine ewp_seq ?_
 refine ewp_seq ?_
 refine ewp_reg ?_
 refine ewl_run rfl (rn_assign rfl) ?_
 refine ewl_nil ?_
 refine thn_n ?_
 refine ewp_block ?_
 have hlx : x.length ≤ 2000 := by have := of_decide_eq_false h1; omega
 have hly : y.length ≤ 2000 := by have := of_decide_eq_false h2; omega
 refine ewp_loop (fun kk σ ds w' => ∃ i : Nat, kk = x.length - i ∧ ds = [] ∧ σ = (upd (upd (upd (upd (upd SW.e0 0 (S x)) 7 (.int .i64 (progS x).2.2.2)) 10 (.int .i64 (progS y).2.2.2)) 13 (.int .i64 (progS (x ++ [10] ++ y)).2.2.2)) 14 (.int .i64 (i : Int))) ∧ i ≤ x.length ∧ noQ (x.take i) ∧ Ext w w') x.length (upd (upd (upd (upd (upd SW.e0 0 (S x)) 7 (.int .i64 (progS x).2.2.2)) 10 (.int .i64 (progS y).2.2.2)) 13 (.int .i64 (progS (x ++ [10] ++ y)).2.2.2)) 14 (.int .i64 ((0 : Nat) : Int))) (le_upd (le_upd (le_upd (le_upd (le_upd (le_e0 _) rfl) rfl) rfl) rfl) rfl) ⟨0, rfl, rfl, rfl, by omega, (fun c hc => by simp at hc), hX⟩ ?_
 rintro _ _ _ wl ⟨i, rfl, rfl, rfl, hi, hq, hX⟩
 refine ewp_seq ?_
 refine ewp_seq ?_
 refine ewp_reg ?_
 refine ewl_run rfl (rn_move rfl) ?_
 refine ewl_run rfl (rn_move rfl) ?_
 refine ewl_run rfl (rn_lenS rfl un9) ?_
 refine ewl_run rfl (rn_ltI rfl rfl) ?_
 refine ewl_nil ?_
 refine thn_n ?_
 refine ewp_if rfl (fun h12 => ?_) (fun h12 => ?_)
 refine ewp_skip ?_
 refine thn_n ?_
 refine ewp_seq ?_
 refine ewp_block ?_
 refine ewp_seq ?_
 have hil : i < x.length := by have := of_decide_eq_true h12; omega
 obtain ⟨c, hc⟩ := at_lt hil
 refine ewp_reg ?_
 refine ewl_run rfl (rn_move rfl) ?_
 refine ewl_run rfl (rn_move rfl) ?_
 refine ewl_run rfl (rn_ixS rfl rfl un9 (by omega) (by simpa using hc)) ?_
 refine ewl_run rfl (rn_eqI rfl rfl) ?_
 refine ewl_run rfl (rn_move rfl) ?_
 refine ewl_split 82 rfl (fun h13 => ?_) (fun h13 => ?_)
 refine ewl_off rfl rfl rfl h13 ?_
 refine ewl_off rfl rfl rfl h13 ?_
 refine ewl_off rfl rfl rfl h13 ?_
 refine ewl_off rfl rfl rfl h13 ?_
 refine ewl_run rfl (rn_pickt rfl h13 rfl) ?_
 refine ewl_nil ?_
 refine thn_n ?_
 refine ewp_ift rfl rfl ?_
 refine ewp_seq ?_
 refine ewp_reg ?_
 refine ewl_run rfl (rn_assign rfl) ?_
 refine ewl_nil ?_
 refine thn_n ?_
 refine ewp_ret ?_
 refine blk_r ?_
 refine thn_r ?_
 refine lp_r ?_
 refine blk_r ?_
 refine thn_r ?_
 refine fn_r (resv rfl (rv_tmp rfl)) ?_
 exact ⟨rfl, hX⟩
 refine ewl_grd rfl rfl h13 ?_
 refine ewl_run rfl (rn_move rfl) ?_
 refine ewl_grd rfl rfl h13 ?_
 refine ewl_run rfl (rn_move rfl) ?_
 refine ewl_grd rfl rfl h13 ?_
 refine ewl_run rfl (rn_ixS rfl rfl un9 (by omega) (by simpa using hc)) ?_
 refine ewl_grd rfl rfl h13 ?_
 refine ewl_run rfl (rn_eqI rfl rfl) ?_
 refine ewl_run rfl (rn_pickf rfl h13 rfl) ?_
 refine ewl_nil ?_
 refine thn_n ?_
 refine ewp_if rfl (fun h14 => ?_) (fun h14 => ?_)
 refine ewp_seq ?_
 refine ewp_reg ?_
 refine ewl_run rfl (rn_assign rfl) ?_
 refine ewl_nil ?_
 refine thn_n ?_
 refine ewp_ret ?_
 refine blk_r ?_
 refine thn_r ?_
 refine lp_r ?_
 refine blk_r ?_
 refine thn_r ?_
 refine fn_r (resv rfl (rv_tmp rfl)) ?_
 exact ⟨rfl, hX⟩
 refine ewp_skip ?_
 refine blk_n ?_
 refine thn_n ?_
 refine ewp_reg ?_
 refine ewl_run rfl (rn_move rfl) ?_
 refine ewl_run rfl (rn_add rfl rfl ⟨by omega, by omega⟩) ?_
 refine ewl_run rfl (rn_assign rfl) ?_
 refine ewl_nil ?_
 refine lp_n (x.length - (i + 1)) (upd (upd (upd (upd (upd SW.e0 0 (S x)) 7 (.int .i64 (progS x).2.2.2)) 10 (.int .i64 (progS y).2.2.2)) 13 (.int .i64 (progS (x ++ [10] ++ y)).2.2.2)) 14 (.int .i64 ((i + 1 : Nat) : Int))) (by omega) (le_upd (le_upd (le_upd (le_upd (le_upd (le_e0 _) rfl) rfl) rfl) rfl) rfl) ⟨i + 1, rfl, rfl, rfl, by omega, (by rw [take_snoc hc]; exact noQ_snoc hq h13 h14), hX⟩
 refine ewp_exit ?_
 refine thn_e ?_
 refine lp_e ?_
 refine blk_e ?_
 refine thn_n ?_
 refine ewp_seq ?_
 refine ewp_reg ?_
 refine ewl_run rfl (rn_assign rfl) ?_
 refine ewl_nil ?_
 refine thn_n ?_
 refine ewp_seq ?_
 refine ewp_seq ?_
 refine ewp_reg ?_
 refine ewl_run rfl (rn_assign rfl) ?_
 refine ewl_nil ?_
 refine thn_n ?_
 refine ewp_block ?_
 have hqx : noQ x := by have hh : ¬ (i : Int) < (x.length : Int) := of_decide_eq_false h12; rwa [List.take_of_length_le (by omega)] at hq
 refine ewp_loop (fun kk σ ds w' => ∃ i : Nat, kk = x.length - i ∧ ds = [] ∧ σ = (upd (upd (upd (upd (upd (upd SW.e0 0 (S x)) 7 (.int .i64 (progS x).2.2.2)) 10 (.int .i64 (progS y).2.2.2)) 13 (.int .i64 (progS (x ++ [10] ++ y)).2.2.2)) 15 (.int .i64 (cntB (x.take i)))) 16 (.int .i64 (i : Int))) ∧ i ≤ x.length ∧ Ext w w') x.length (upd (upd (upd (upd (upd (upd SW.e0 0 (S x)) 7 (.int .i64 (progS x).2.2.2)) 10 (.int .i64 (progS y).2.2.2)) 13 (.int .i64 (progS (x ++ [10] ++ y)).2.2.2)) 15 (.int .i64 (cntB (x.take 0)))) 16 (.int .i64 ((0 : Nat) : Int))) (le_upd (le_upd (le_upd (le_upd (le_upd (le_upd (le_e0 _) rfl) rfl) rfl) rfl) (bi (by simp [cntB]))) rfl) ⟨0, rfl, rfl, rfl, by omega, hX⟩ ?_
 clear hi hq
 rintro _ _ _ wl ⟨i, rfl, rfl, rfl, hi, hX⟩
 have hcb := cntB_le (x.take i)
 rw [List.length_take, Nat.min_eq_left hi] at hcb
 refine ewp_seq ?_
 refine ewp_seq ?_
 refine ewp_reg ?_
 refine ewl_run rfl (rn_move rfl) ?_
 refine ewl_run rfl (rn_move rfl) ?_
 refine ewl_run rfl (rn_lenS rfl un9) ?_
 refine ewl_run rfl (rn_ltI rfl rfl) ?_
 refine ewl_nil ?_
 refine thn_n ?_
 refine ewp_if rfl (fun h15 => ?_) (fun h15 => ?_)
 refine ewp_skip ?_
 refine thn_n ?_
 refine ewp_seq ?_
 refine ewp_block ?_
 refine ewp_seq ?_
 refine ewp_seq ?_
 have hil : i < x.length := by have := of_decide_eq_true h15; omega
 obtain ⟨c, hc⟩ := at_lt hil
 have hT : cntB (x.take (i + 1)) = cntB (x.take i) + brk c.toNat := by rw [take_snoc hc, cntB_app]; simp [cntB]
 refine ewp_reg ?_
 refine ewl_run rfl (rn_move rfl) ?_
 refine ewl_run rfl (rn_move rfl) ?_
 refine ewl_run rfl (rn_ixS rfl rfl un9 (by omega) (by simpa using hc)) ?_
 refine ewl_run rfl (rn_eqI rfl rfl) ?_
 refine ewl_nil ?_
 refine thn_n ?_
 refine ewp_if rfl (fun h16 => ?_) (fun h16 => ?_)
 refine ewp_reg ?_
 refine ewl_run rfl (rn_move rfl) ?_
 refine ewl_run rfl (rn_add rfl rfl ⟨by omega, by omega⟩) ?_
 refine ewl_run rfl (rn_assign rfl) ?_
 refine ewl_nil ?_
 refine thn_n ?_
 refine ewp_seq ?_
 refine ewp_reg ?_
 refine ewl_run rfl (rn_move rfl) ?_
 refine ewl_run rfl (rn_move rfl) ?_
 refine ewl_run rfl (rn_ixS rfl rfl un9 (by omega) (by simpa using hc)) ?_
 refine ewl_run rfl (rn_eqI rfl rfl) ?_
 refine ewl_nil ?_
 refine thn_n ?_
 refine ewp_if rfl (fun h17 => ?_) (fun h17 => ?_)
 · exfalso
   have e40 := beq_iff_eq.1 h16; have e41 := beq_iff_eq.1 h17; omega
 refine ewp_skip ?_
 refine blk_n ?_
 refine thn_n ?_
 refine ewp_reg ?_
 refine ewl_run rfl (rn_move rfl) ?_
 refine ewl_run rfl (rn_add rfl rfl ⟨by omega, by omega⟩) ?_
 refine ewl_run rfl (rn_assign rfl) ?_
 refine ewl_nil ?_
 refine lp_n (x.length - (i + 1)) (upd (upd (upd (upd (upd (upd SW.e0 0 (S x)) 7 (.int .i64 (progS x).2.2.2)) 10 (.int .i64 (progS y).2.2.2)) 13 (.int .i64 (progS (x ++ [10] ++ y)).2.2.2)) 15 (.int .i64 (cntB (x.take (i + 1))))) 16 (.int .i64 ((i + 1 : Nat) : Int))) (by omega) (le_upd (le_upd (le_upd (le_upd (le_upd (le_upd (le_e0 _) rfl) rfl) rfl) rfl) (bi (by rw [hT, brk]; simp only [h16, h17, if_true, Bool.false_eq_true, if_false, Int.add_zero]))) rfl) ⟨i + 1, rfl, rfl, rfl, by omega, hX⟩
 refine ewp_skip ?_
 refine thn_n ?_
 refine ewp_seq ?_
 refine ewp_reg ?_
 refine ewl_run rfl (rn_move rfl) ?_
 refine ewl_run rfl (rn_move rfl) ?_
 refine ewl_run rfl (rn_ixS rfl rfl un9 (by omega) (by simpa using hc)) ?_
 refine ewl_run rfl (rn_eqI rfl rfl) ?_
 refine ewl_nil ?_
 refine thn_n ?_
 refine ewp_if rfl (fun h18 => ?_) (fun h18 => ?_)
 refine ewp_reg ?_
 refine ewl_run rfl (rn_move rfl) ?_
 refine ewl_run rfl (rn_sub rfl rfl ⟨by omega, by omega⟩) ?_
 refine ewl_run rfl (rn_assign rfl) ?_
 refine ewl_nil ?_
 refine blk_n ?_
 refine thn_n ?_
 refine ewp_reg ?_
 refine ewl_run rfl (rn_move rfl) ?_
 refine ewl_run rfl (rn_add rfl rfl ⟨by omega, by omega⟩) ?_
 refine ewl_run rfl (rn_assign rfl) ?_
 refine ewl_nil ?_
 refine lp_n (x.length - (i + 1)) (upd (upd (upd (upd (upd (upd SW.e0 0 (S x)) 7 (.int .i64 (progS x).2.2.2)) 10 (.int .i64 (progS y).2.2.2)) 13 (.int .i64 (progS (x ++ [10] ++ y)).2.2.2)) 15 (.int .i64 (cntB (x.take (i + 1))))) 16 (.int .i64 ((i + 1 : Nat) : Int))) (by omega) (le_upd (le_upd (le_upd (le_upd (le_upd (le_upd (le_e0 _) rfl) rfl) rfl) rfl) (bi (by rw [hT, brk]; simp only [h16, h18, if_true, Bool.false_eq_true, if_false, Int.add_zero]; omega))) rfl) ⟨i + 1, rfl, rfl, rfl, by omega, hX⟩
 refine ewp_skip ?_
 refine blk_n ?_
 refine thn_n ?_
 refine ewp_reg ?_
 refine ewl_run rfl (rn_move rfl) ?_
 refine ewl_run rfl (rn_add rfl rfl ⟨by omega, by omega⟩) ?_
 refine ewl_run rfl (rn_assign rfl) ?_
 refine ewl_nil ?_
 refine lp_n (x.length - (i + 1)) (upd (upd (upd (upd (upd (upd SW.e0 0 (S x)) 7 (.int .i64 (progS x).2.2.2)) 10 (.int .i64 (progS y).2.2.2)) 13 (.int .i64 (progS (x ++ [10] ++ y)).2.2.2)) 15 (.int .i64 (cntB (x.take (i + 1))))) 16 (.int .i64 ((i + 1 : Nat) : Int))) (by omega) (le_upd (le_upd (le_upd (le_upd (le_upd (le_upd (le_e0 _) rfl) rfl) rfl) rfl) (bi (by rw [hT, brk]; simp only [h16, h18, if_true, Bool.false_eq_true, if_false, Int.add_zero]))) rfl) ⟨i + 1, rfl, rfl, rfl, by omega, hX⟩
 refine ewp_exit ?_
 refine thn_e ?_
 refine lp_e ?_
 refine blk_e ?_
 refine thn_n ?_
 refine ewp_seq ?_
 refine ewp_reg ?_
 refine ewl_run rfl (rn_move rfl) ?_
 refine ewl_run rfl (rn_eqI rfl rfl) ?_
 refine ewl_run rfl (rn_move rfl) ?_
 refine ewl_grd rfl rfl h3 ?_
 refine ewl_run rfl (rn_move rfl) ?_
 refine ewl_grd rfl rfl h3 ?_
 refine ewl_run rfl (rn_eqI rfl rfl) ?_
 refine ewl_run rfl (rn_pickt rfl h3 rfl) ?_
 refine ewl_run rfl (rn_move rfl) ?_
 refine ewl_grd rfl rfl h4 ?_
 refine ewl_run rfl (rn_move rfl) ?_
 refine ewl_grd rfl rfl h4 ?_
 refine ewl_run rfl (rn_neI rfl rfl) ?_
 refine ewl_run rfl (rn_pickf rfl h4 rfl) ?_
 refine ewl_run rfl (rn_move rfl) ?_
 refine ewl_split 116 rfl (fun h19 => ?_) (fun h19 => ?_)
 refine ewl_off rfl rfl rfl h19 ?_
 refine ewl_off rfl rfl rfl h19 ?_
 refine ewl_run rfl (rn_pickt rfl h19 rfl) ?_
 refine ewl_run rfl (rn_assign rfl) ?_
 refine ewl_nil ?_
 refine thn_n ?_
 refine ewp_ret ?_
 refine fn_r (resv rfl (rv_tmp rfl)) ?_
 exact ⟨rfl, hX⟩
 refine ewl_grd rfl rfl h19 ?_
 refine ewl_run rfl (rn_move rfl) ?_
 refine ewl_grd rfl rfl h19 ?_
 refine ewl_run rfl (rn_neI rfl rfl) ?_
 refine ewl_run rfl (rn_pickf rfl h19 rfl) ?_
 refine ewl_run rfl (rn_assign rfl) ?_
 refine ewl_nil ?_
 refine thn_n ?_
 refine ewp_ret ?_
 refine fn_r (resv rfl (rv_tmp rfl)) ?_
 have hie : ¬ (i : Int) < (x.length : Int) := of_decide_eq_false h15
 rw [List.take_of_length_le (by omega)] at *
 have hc0 : cntB x = 0 := by have h9 := h19; simpa using h9
 refine ⟨congrArg Value.bool ?_, hX⟩
 cases h9 : ((progS (x ++ [10] ++ y)).2.2.2 != 0) with
 | true => rfl
 | false =>
   replace h9 : (progS (x ++ [10] ++ y)).2.2.2 = 0 := by simpa using h9
   exfalso
   have h8 := pieces_bad hlx hly hqx hc0 h9; have h7 := h4; rw [show (progS y).2.2.2 = 0 from h8.2] at h7; cases h7
 refine ewl_off rfl rfl rfl h3 ?_
 refine ewl_off rfl rfl rfl h3 ?_
 refine ewl_grd rfl rfl rfl ?_
 refine ewl_run rfl (rn_pickf rfl h3 rfl) ?_
 refine ewl_grd rfl rfl rfl ?_
 refine ewl_run rfl (rn_move rfl) ?_
 refine ewl_off rfl rfl rfl rfl ?_
 refine ewl_off rfl rfl rfl rfl ?_
 refine ewl_off rfl rfl rfl rfl ?_
 refine ewl_offu rfl rfl rfl ?_
 refine ewl_offu rfl rfl rfl ?_
 refine ewl_offu rfl rfl rfl ?_
 refine ewl_offu rfl rfl rfl ?_
 refine ewl_offu rfl rfl rfl ?_
 refine ewl_offu rfl rfl rfl ?_
 refine ewl_offu rfl rfl rfl ?_
 refine ewl_offu rfl rfl rfl ?_
 refine ewl_offu rfl rfl rfl ?_
 refine ewl_off rfl rfl rfl rfl ?_
 refine ewl_grd rfl rfl rfl ?_
 refine ewl_run rfl (rn_pickf rfl rfl rfl) ?_
 refine ewl_run rfl (rn_pickf rfl rfl rfl) ?_
 refine ewl_nil ?_
 refine thn_n ?_
 refine ewp_iff rfl rfl ?_
 refine ewp_skip ?_
 refine thn_n ?_
 refine ewp_seq ?_
 refine ewp_seq ?_
 refine ewp_reg ?_
 refine ewl_run rfl (rn_assign rfl) ?_
 refine ewl_nil ?_
 refine thn_n ?_
 refine ewp_block ?_
 have hlx : x.length ≤ 2000 := by have := of_decide_eq_false h1; omega
 have hly : y.length ≤ 2000 := by have := of_decide_eq_false h2; omega
 refine ewp_loop (fun kk σ ds w' => ∃ i : Nat, kk = x.length - i ∧ ds = [] ∧ σ = (upd (upd (upd (upd (upd SW.e0 0 (S x)) 7 (.int .i64 (progS x).2.2.2)) 10 (.int .i64 (progS y).2.2.2)) 13 (.int .i64 (progS (x ++ [10] ++ y)).2.2.2)) 14 (.int .i64 (i : Int))) ∧ i ≤ x.length ∧ noQ (x.take i) ∧ Ext w w') x.length (upd (upd (upd (upd (upd SW.e0 0 (S x)) 7 (.int .i64 (progS x).2.2.2)) 10 (.int .i64 (progS y).2.2.2)) 13 (.int .i64 (progS (x ++ [10] ++ y)).2.2.2)) 14 (.int .i64 ((0 : Nat) : Int))) (le_upd (le_upd (le_upd (le_upd (le_upd (le_e0 _) rfl) rfl) rfl) rfl) rfl) ⟨0, rfl, rfl, rfl, by omega, (fun c hc => by simp at hc), hX⟩ ?_
 rintro _ _ _ wl ⟨i, rfl, rfl, rfl, hi, hq, hX⟩
 refine ewp_seq ?_
 refine ewp_seq ?_
 refine ewp_reg ?_
 refine ewl_run rfl (rn_move rfl) ?_
 refine ewl_run rfl (rn_move rfl) ?_
 refine ewl_run rfl (rn_lenS rfl un9) ?_
 refine ewl_run rfl (rn_ltI rfl rfl) ?_
 refine ewl_nil ?_
 refine thn_n ?_
 refine ewp_if rfl (fun h20 => ?_) (fun h20 => ?_)
 refine ewp_skip ?_
 refine thn_n ?_
 refine ewp_seq ?_
 refine ewp_block ?_
 refine ewp_seq ?_
 have hil : i < x.length := by have := of_decide_eq_true h20; omega
 obtain ⟨c, hc⟩ := at_lt hil
 refine ewp_reg ?_
 refine ewl_run rfl (rn_move rfl) ?_
 refine ewl_run rfl (rn_move rfl) ?_
 refine ewl_run rfl (rn_ixS rfl rfl un9 (by omega) (by simpa using hc)) ?_
 refine ewl_run rfl (rn_eqI rfl rfl) ?_
 refine ewl_run rfl (rn_move rfl) ?_
 refine ewl_split 82 rfl (fun h21 => ?_) (fun h21 => ?_)
 refine ewl_off rfl rfl rfl h21 ?_
 refine ewl_off rfl rfl rfl h21 ?_
 refine ewl_off rfl rfl rfl h21 ?_
 refine ewl_off rfl rfl rfl h21 ?_
 refine ewl_run rfl (rn_pickt rfl h21 rfl) ?_
 refine ewl_nil ?_
 refine thn_n ?_
 refine ewp_ift rfl rfl ?_
 refine ewp_seq ?_
 refine ewp_reg ?_
 refine ewl_run rfl (rn_assign rfl) ?_
 refine ewl_nil ?_
 refine thn_n ?_
 refine ewp_ret ?_
 refine blk_r ?_
 refine thn_r ?_
 refine lp_r ?_
 refine blk_r ?_
 refine thn_r ?_
 refine fn_r (resv rfl (rv_tmp rfl)) ?_
 exact ⟨rfl, hX⟩
 refine ewl_grd rfl rfl h21 ?_
 refine ewl_run rfl (rn_move rfl) ?_
 refine ewl_grd rfl rfl h21 ?_
 refine ewl_run rfl (rn_move rfl) ?_
 refine ewl_grd rfl rfl h21 ?_
 refine ewl_run rfl (rn_ixS rfl rfl un9 (by omega) (by simpa using hc)) ?_
 refine ewl_grd rfl rfl h21 ?_
 refine ewl_run rfl (rn_eqI rfl rfl) ?_
 refine ewl_run rfl (rn_pickf rfl h21 rfl) ?_
 refine ewl_nil ?_
 refine thn_n ?_
 refine ewp_if rfl (fun h22 => ?_) (fun h22 => ?_)
 refine ewp_seq ?_
 refine ewp_reg ?_
 refine ewl_run rfl (rn_assign rfl) ?_
 refine ewl_nil ?_
 refine thn_n ?_
 refine ewp_ret ?_
 refine blk_r ?_
 refine thn_r ?_
 refine lp_r ?_
 refine blk_r ?_
 refine thn_r ?_
 refine fn_r (resv rfl (rv_tmp rfl)) ?_
 exact ⟨rfl, hX⟩
 refine ewp_skip ?_
 refine blk_n ?_
 refine thn_n ?_
 refine ewp_reg ?_
 refine ewl_run rfl (rn_move rfl) ?_
 refine ewl_run rfl (rn_add rfl rfl ⟨by omega, by omega⟩) ?_
 refine ewl_run rfl (rn_assign rfl) ?_
 refine ewl_nil ?_
 refine lp_n (x.length - (i + 1)) (upd (upd (upd (upd (upd SW.e0 0 (S x)) 7 (.int .i64 (progS x).2.2.2)) 10 (.int .i64 (progS y).2.2.2)) 13 (.int .i64 (progS (x ++ [10] ++ y)).2.2.2)) 14 (.int .i64 ((i + 1 : Nat) : Int))) (by omega) (le_upd (le_upd (le_upd (le_upd (le_upd (le_e0 _) rfl) rfl) rfl) rfl) rfl) ⟨i + 1, rfl, rfl, rfl, by omega, (by rw [take_snoc hc]; exact noQ_snoc hq h21 h22), hX⟩
 refine ewp_exit ?_
 refine thn_e ?_
 refine lp_e ?_
 refine blk_e ?_
 refine thn_n ?_
 refine ewp_seq ?_
 refine ewp_reg ?_
 refine ewl_run rfl (rn_assign rfl) ?_
 refine ewl_nil ?_
 refine thn_n ?_
 refine ewp_seq ?_
 refine ewp_seq ?_
 refine ewp_reg ?_
 refine ewl_run rfl (rn_assign rfl) ?_
 refine ewl_nil ?_
 refine thn_n ?_
 refine ewp_block ?_
 have hqx : noQ x := by have hh : ¬ (i : Int) < (x.length : Int) := of_decide_eq_false h20; rwa [List.take_of_length_le (by omega)] at hq
 refine ewp_loop (fun kk σ ds w' => ∃ i : Nat, kk = x.length - i ∧ ds = [] ∧ σ = (upd (upd (upd (upd (upd (upd SW.e0 0 (S x)) 7 (.int .i64 (progS x).2.2.2)) 10 (.int .i64 (progS y).2.2.2)) 13 (.int .i64 (progS (x ++ [10] ++ y)).2.2.2)) 15 (.int .i64 (cntB (x.take i)))) 16 (.int .i64 (i : Int))) ∧ i ≤ x.length ∧ Ext w w') x.length (upd (upd (upd (upd (upd (upd SW.e0 0 (S x)) 7 (.int .i64 (progS x).2.2.2)) 10 (.int .i64 (progS y).2.2.2)) 13 (.int .i64 (progS (x ++ [10] ++ y)).2.2.2)) 15 (.int .i64 (cntB (x.take 0)))) 16 (.int .i64 ((0 : Nat) : Int))) (le_upd (le_upd (le_upd (le_upd (le_upd (le_upd (le_e0 _) rfl) rfl) rfl) rfl) (bi (by simp [cntB]))) rfl) ⟨0, rfl, rfl, rfl, by omega, hX⟩ ?_
 clear hi hq
 rintro _ _ _ wl ⟨i, rfl, rfl, rfl, hi, hX⟩
 have hcb := cntB_le (x.take i)
 rw [List.length_take, Nat.min_eq_left hi] at hcb
 refine ewp_seq ?_
 refine ewp_seq ?_
 refine ewp_reg ?_
 refine ewl_run rfl (rn_move rfl) ?_
 refine ewl_run rfl (rn_move rfl) ?_
 refine ewl_run rfl (rn_lenS rfl un9) ?_
 refine ewl_run rfl (rn_ltI rfl rfl) ?_
 refine ewl_nil ?_
 refine thn_n ?_
 refine ewp_if rfl (fun h23 => ?_) (fun h23 => ?_)
 refine ewp_skip ?_
 refine thn_n ?_
 refine ewp_seq ?_
 refine ewp_block ?_
 refine ewp_seq ?_
 refine ewp_seq ?_
 have hil : i < x.length := by have := of_decide_eq_true h23; omega
 obtain ⟨c, hc⟩ := at_lt hil
 have hT : cntB (x.take (i + 1)) = cntB (x.take i) + brk c.toNat := by rw [take_snoc hc, cntB_app]; simp [cntB]
 refine ewp_reg ?_
 refine ewl_run rfl (rn_move rfl) ?_
 refine ewl_run rfl (rn_move rfl) ?_
 refine ewl_run rfl (rn_ixS rfl rfl un9 (by omega) (by simpa using hc)) ?_
 refine ewl_run rfl (rn_eqI rfl rfl) ?_
 refine ewl_nil ?_
 refine thn_n ?_
 refine ewp_if rfl (fun h24 => ?_) (fun h24 => ?_)
 refine ewp_reg ?_
 refine ewl_run rfl (rn_move rfl) ?_
 refine ewl_run rfl (rn_add rfl rfl ⟨by omega, by omega⟩) ?_
 refine ewl_run rfl (rn_assign rfl) ?_
 refine ewl_nil ?_
 refine thn_n ?_
 refine ewp_seq ?_
 refine ewp_reg ?_
 refine ewl_run rfl (rn_move rfl) ?_
 refine ewl_run rfl (rn_move rfl) ?_
 refine ewl_run rfl (rn_ixS rfl rfl un9 (by omega) (by simpa using hc)) ?_
 refine ewl_run rfl (rn_eqI rfl rfl) ?_
 refine ewl_nil ?_
 refine thn_n ?_
 refine ewp_if rfl (fun h25 => ?_) (fun h25 => ?_)
 · exfalso
   have e40 := beq_iff_eq.1 h24; have e41 := beq_iff_eq.1 h25; omega
 refine ewp_skip ?_
 refine blk_n ?_
 refine thn_n ?_
 refine ewp_reg ?_
 refine ewl_run rfl (rn_move rfl) ?_
 refine ewl_run rfl (rn_add rfl rfl ⟨by omega, by omega⟩) ?_
 refine ewl_run rfl (rn_assign rfl) ?_
 refine ewl_nil ?_
 refine lp_n (x.length - (i + 1)) (upd (upd (upd (upd (upd (upd SW.e0 0 (S x)) 7 (.int .i64 (progS x).2.2.2)) 10 (.int .i64 (progS y).2.2.2)) 13 (.int .i64 (progS (x ++ [10] ++ y)).2.2.2)) 15 (.int .i64 (cntB (x.take (i + 1))))) 16 (.int .i64 ((i + 1 : Nat) : Int))) (by omega) (le_upd (le_upd (le_upd (le_upd (le_upd (le_upd (le_e0 _) rfl) rfl) rfl) rfl) (bi (by rw [hT, brk]; simp only [h24, h25, if_true, Bool.false_eq_true, if_false, Int.add_zero]))) rfl) ⟨i + 1, rfl, rfl, rfl, by omega, hX⟩
 refine ewp_skip ?_
 refine thn_n ?_
 refine ewp_seq ?_
 refine ewp_reg ?_
 refine ewl_run rfl (rn_move rfl) ?_
 refine ewl_run rfl (rn_move rfl) ?_
 refine ewl_run rfl (rn_ixS rfl rfl un9 (by omega) (by simpa using hc)) ?_
 refine ewl_run rfl (rn_eqI rfl rfl) ?_
 refine ewl_nil ?_
 refine thn_n ?_
 refine ewp_if rfl (fun h26 => ?_) (fun h26 => ?_)
 refine ewp_reg ?_
 refine ewl_run rfl (rn_move rfl) ?_
 refine ewl_run rfl (rn_sub rfl rfl ⟨by omega, by omega⟩) ?_
 refine ewl_run rfl (rn_assign rfl) ?_
 refine ewl_nil ?_
 refine blk_n ?_
 refine thn_n ?_
 refine ewp_reg ?_
 refine ewl_run rfl (rn_move rfl) ?_
 refine ewl_run rfl (rn_add rfl rfl ⟨by omega, by omega⟩) ?_
 refine ewl_run rfl (rn_assign rfl) ?_
 refine ewl_nil ?_
 refine lp_n (x.length - (i + 1)) (upd (upd (upd (upd (upd (upd SW.e0 0 (S x)) 7 (.int .i64 (progS x).2.2.2)) 10 (.int .i64 (progS y).2.2.2)) 13 (.int .i64 (progS (x ++ [10] ++ y)).2.2.2)) 15 (.int .i64 (cntB (x.take (i + 1))))) 16 (.int .i64 ((i + 1 : Nat) : Int))) (by omega) (le_upd (le_upd (le_upd (le_upd (le_upd (le_upd (le_e0 _) rfl) rfl) rfl) rfl) (bi (by rw [hT, brk]; simp only [h24, h26, if_true, Bool.false_eq_true, if_false, Int.add_zero]; omega))) rfl) ⟨i + 1, rfl, rfl, rfl, by omega, hX⟩
 refine ewp_skip ?_
 refine blk_n ?_
 refine thn_n ?_
 refine ewp_reg ?_
 refine ewl_run rfl (rn_move rfl) ?_
 refine ewl_run rfl (rn_add rfl rfl ⟨by omega, by omega⟩) ?_
 refine ewl_run rfl (rn_assign rfl) ?_
 refine ewl_nil ?_
 refine lp_n (x.length - (i + 1)) (upd (upd (upd (upd (upd (upd SW.e0 0 (S x)) 7 (.int .i64 (progS x).2.2.2)) 10 (.int .i64 (progS y).2.2.2)) 13 (.int .i64 (progS (x ++ [10] ++ y)).2.2.2)) 15 (.int .i64 (cntB (x.take (i + 1))))) 16 (.int .i64 ((i + 1 : Nat) : Int))) (by omega) (le_upd (le_upd (le_upd (le_upd (le_upd (le_upd (le_e0 _) rfl) rfl) rfl) rfl) (bi (by rw [hT, brk]; simp only [h24, h26, if_true, Bool.false_eq_true, if_false, Int.add_zero]))) rfl) ⟨i + 1, rfl, rfl, rfl, by omega, hX⟩
 refine ewp_exit ?_
 refine thn_e ?_
 refine lp_e ?_
 refine blk_e ?_
 refine thn_n ?_
 refine ewp_seq ?_
 refine ewp_reg ?_
 refine ewl_run rfl (rn_move rfl) ?_
 refine ewl_run rfl (rn_eqI rfl rfl) ?_
 refine ewl_run rfl (rn_move rfl) ?_
 refine ewl_off rfl rfl rfl h3 ?_
 refine ewl_off rfl rfl rfl h3 ?_
 refine ewl_run rfl (rn_pickf rfl h3 rfl) ?_
 refine ewl_run rfl (rn_move rfl) ?_
 refine ewl_grd rfl rfl rfl ?_
 refine ewl_run rfl (rn_move rfl) ?_
 refine ewl_grd rfl rfl rfl ?_
 refine ewl_run rfl (rn_neI rfl rfl) ?_
 refine ewl_run rfl (rn_pickf rfl rfl rfl) ?_
 refine ewl_run rfl (rn_move rfl) ?_
 refine ewl_split 116 rfl (fun h27 => ?_) (fun h27 => ?_)
 refine ewl_off rfl rfl rfl h27 ?_
 refine ewl_off rfl rfl rfl h27 ?_
 refine ewl_run rfl (rn_pickt rfl h27 rfl) ?_
 refine ewl_run rfl (rn_assign rfl) ?_
 refine ewl_nil ?_
 refine thn_n ?_
 refine ewp_ret ?_
 refine fn_r (resv rfl (rv_tmp rfl)) ?_
 exact ⟨rfl, hX⟩
 refine ewl_grd rfl rfl h27 ?_
 refine ewl_run rfl (rn_move rfl) ?_
 refine ewl_grd rfl rfl h27 ?_
 refine ewl_run rfl (rn_neI rfl rfl) ?_
 refine ewl_run rfl (rn_pickf rfl h27 rfl) ?_
 refine ewl_run rfl (rn_assign rfl) ?_
 refine ewl_nil ?_
 refine thn_n ?_
 refine ewp_ret ?_
 refine fn_r (resv rfl (rv_tmp rfl)) ?_
 have hie : ¬ (i : Int) < (x.length : Int) := of_decide_eq_false h23
 rw [List.take_of_length_le (by omega)] at *
 have hc0 : cntB x = 0 := by have h9 := h27; simpa using h9
 refine ⟨congrArg Value.bool ?_, hX⟩
 cases h9 : ((progS (x ++ [10] ++ y)).2.2.2 != 0) with
 | true => rfl
 | false =>
   replace h9 : (progS (x ++ [10] ++ y)).2.2.2 = 0 := by simpa using h9
   exfalso
   have h8 := pieces_bad hlx hly hqx hc0 h9; have h7 := h3; rw [show (progS x).2.2.2 = 0 from h8.1] at h7; cases h7
end Go.Proofs.YthjdnhnbgjgbkaaGreatDoor
namespace Go.Proofs.YthjdnhnbgjgbkaaGreatDoor.Pieces
open Go.SW Go.SP Go.RowKit Go.Lib Go.ChangeShapes Go.WideShapes Go.ChangeAt Go.ChangeMaps
set_option maxRecDepth 100000 in
theorem contract (H : Type) (enc : TypeId × Value → H) (W : World) (base : Nat) (args : Array Value) (ds gs : List (DataW H)) (before : List MemPlace)
   (hval : ∀ (j : Nat) t v, Tryz.f3.params[j]? = some t → args[j]? = some v → Value.okWide Tryz.prog W .any base t v)
   (hW : DataW.Whole enc Tryz.prog Tryz.f3.params.toList Rows.parsePiecesSpec.vars false W args.toList ds gs before) (hL : laidMetH Tryz.prog Rows.parsePiecesRow.laid W) (hS : W.ShapedOpen Tryz.prog) :
   Calls Tryz.prog 3 args W fun e W' => ∃ v, e = .returned v ∧ Rows.parsePiecesSpec.post enc Tryz.prog Tryz.f3 false true false false W args v W' := by
 have hW' := hW
 obtain ⟨p, q, hA0, hV, rfl, hfz, hnd⟩ := hW
 have hA : DataW.TrodAll enc Tryz.prog W 0 (fun _ => true) true Tryz.f3.params.toList args.toList ds p := hA0
 rw [Tryz.params3] at hA hval
 obtain ⟨v0, vs0, d0, ds0, p0, q0, hargs0, rfl, rfl, h0, r0⟩ := trodAll_cons hA
 obtain ⟨v1, vs1, d1, ds1, p1, q1, hargs1, rfl, rfl, h1, r1⟩ := trodAll_cons r0
 obtain ⟨rfl, rfl, rfl⟩ := trodAll_nil r1
 obtain rfl : args = #[v0, v1] := by
   obtain ⟨l⟩ := args
   exact congrArg Array.mk (hargs0.trans (congrArg _ (hargs1)))
 obtain ⟨rfl, rfl⟩ := trodVars_none hV
 obtain ⟨⟨⟨x0⟩⟩, rfl, rfl, rfl, wx0⟩ := open_string Tryz.underlying9 (hval 0 9 v0 rfl rfl) h0
 obtain ⟨⟨⟨x1⟩⟩, rfl, rfl, rfl, wx1⟩ := open_string Tryz.underlying9 (hval 1 9 v1 rfl rfl) h1
 clear hA0
 simp only [List.append_nil] at hW'
 refine Calls.mono (pieces_spec W (gl_of hL hS) x0 x1) ?_
 rintro e W' ⟨v, rfl, rfl, hb⟩
 exact ⟨_, rfl, _, _, _, [], [], [], hW', trodAll_cons_mk (shut_bool Tryz.underlying4 _) trodAll_mk0, trodAll_cons_mk (shut_string Tryz.underlying9 wx0) (trodAll_cons_mk (shut_string Tryz.underlying9 wx1) trodAll_mk0), rfl, hb.frame _, fun h => by cases h⟩
noncomputable def lw (os : Os) : World := World.laidAll Tryz.prog os Rows.parsePiecesRow.laid
theorem laid_met (os : Os) : laidMetH Tryz.prog Rows.parsePiecesRow.laid ((lw os).forCall (fun _ _ => 0) ⟨#[], #[Value.string ⟨#[]⟩, Value.string ⟨#[]⟩], []⟩).memory := by
 rw [MakeChecks.laidMetH_plain _ _ _ (by kernel_rfl)]
 exact laidMet_laidAll _ (by kernel_rfl) (by kernel_rfl)
theorem reads (os : Os) {H : Type} (enc : TypeId × Value → H) : ∃ places, DataW.whole enc Tryz.prog ((lw os).forCall (fun _ _ => 0) ⟨#[], #[Value.string ⟨#[]⟩, Value.string ⟨#[]⟩], []⟩).memory Tryz.f3.params.toList Rows.parsePiecesSpec.vars false (#[Value.string ⟨#[]⟩, Value.string ⟨#[]⟩] : Array Value).toList 8 = some ([.lit (.string []), .lit (.string [])], [], places) :=
 ⟨[], by kernel_rfl⟩
set_option maxRecDepth 100000 in
theorem lifted (os : Os) (started : os.Started) (H : Type) (enc : TypeId × Value → H) (F : Stop.Interp) :
   ReturnsInHanded {} Tryz.checked os 3 .any ((OpenSpec.ofChange Rows.parsePiecesSpec).preRow enc Tryz.prog Tryz.f3 Rows.parsePiecesRow.domain false Rows.parsePiecesRow.laid) (((OpenSpec.ofChange Rows.parsePiecesSpec).at F).post enc Tryz.prog Tryz.f3 false true false false) := by
 obtain ⟨places, hx⟩ := reads os enc
 refine returnsInHanded_of_row (C := Tryz.checked) (s := OpenSpec.ofChange Rows.parsePiecesSpec) own started (by kernel_rfl) Tryz.func3
   ⟨lw os, fun _ _ => 0, ⟨#[], #[Value.string ⟨#[]⟩, Value.string ⟨#[]⟩], []⟩, World.laidAll_os _ _ _, World.shaped_of_ZipB (by kernel_rfl) (by kernel_rfl), rfl, (Input.okWide_of_okWideB (by kernel_rfl)).2,
     OpenSpec.preRow_of_cond 8 hx (by kernel_rfl) (fun k hk => by cases hk) (by kernel_rfl) (laid_met os), by simp [Assume.holds]⟩ ?_
 intro W base args ds gs before hval hW _ _ _ hL hS _
 exact contract H enc W base args ds gs before hval hW hL hS
theorem said : Rows.ParsePiecesSaid :=
 OpenClaim.holds_of_cond 3 Tryz.f3 rfl rfl rfl rfl rfl rfl rfl ⟨rfl, rfl, rfl, rfl, rfl⟩ rfl rfl rfl rfl rfl (by kernel_rfl) Tryz.func3 (by kernel_rfl)
   (of_decide_eq_true (by kernel_rfl)) (by unfold Func.isWrapper; first | (rw [if_pos (by decide +kernel)]; kernel_rfl) | (rw [if_neg (by decide +kernel)]; exact ⟨rfl, rfl⟩))
   (fun os started H enc _ F => by rw [OpenClaim.pre_eq_preRow]; exact lifted os started H enc F)
theorem plain (f : FuncId) (fn : Func) (hf : Tryz.pinned.checked.prog.funcNamed Rows.parsePiecesRow.func = some f) (hfn : Tryz.pinned.checked.prog.funcs[f]? = some fn) :
   true = Tryz.pinned.checked.prog.looks [] ∧ ∀ (j : Nat) t, fn.params[j]? = some t → Tryz.pinned.checked.prog.wantsStandIn t = false := by
 obtain rfl : f = 3 := Option.some.inj ((show Tryz.prog.funcNamed Rows.parsePiecesRow.func = some 3 by kernel_rfl).symm.trans hf) |>.symm
 obtain rfl : fn = Tryz.f3 := (Option.some.inj (Tryz.func3.symm.trans hfn)).symm
 refine ⟨by kernel_rfl, fun j t ht => ?_⟩
 rw [Tryz.params3] at ht
 have hm := Array.mem_of_getElem? ht
 have ht2 : t = 9 ∨ t = 9 := by simpa using hm
 rcases ht2 with rfl | rfl
 · exact (show Tryz.prog.wantsStandIn 9 = false by kernel_rfl)
 · exact (show Tryz.prog.wantsStandIn 9 = false by kernel_rfl)
end Go.Proofs.YthjdnhnbgjgbkaaGreatDoor.Pieces
namespace Go.Proofs.YthjdnhnbgjgbkaaGreatDoor
theorem pieces_card : Rows.ParsePiecesCardSaid :=
 Claim7.holds_tied_plain_at .later [] _ _ _ _ Pieces.said (fun _ h => by cases h) (by kernel_rfl) (fun _ h => by cases h) parsePieces_row_tie rfl ⟨rfl, rfl⟩ (by kernel_rfl) rfl Pieces.plain (by kernel_rfl)
end Go.Proofs.YthjdnhnbgjgbkaaGreatDoor
